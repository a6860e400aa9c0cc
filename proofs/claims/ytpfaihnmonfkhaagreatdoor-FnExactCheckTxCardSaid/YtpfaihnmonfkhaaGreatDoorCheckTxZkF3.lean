/- What functions of the program compute, each as a plain function, and that they do. Conditions: as each theorem states them. -/
import Derived.Test.YtpfaihnmonfkhaaGreatDoorCheckTxZkF2
namespace Go.Proofs.YtpfaihnmonfkhaaGreatDoor.Zk
open Go Go.RowKit Go.IntWalk Go.Proofs
set_option linter.unusedVariables false
set_option linter.unusedSimpArgs false
set_option maxRecDepth 100000
set_option maxHeartbeats 4000000
def spec_l4Out.f (k : Nat) (x0 : Out) : Option Int := ((spec_l1In.f k x0.fValue 1 1000000).bind fun t2022 => (bif !t2022 then some 3 else ((spec_l2Fault.f k x0.fRule).bind fun t2026 => some t2026)))
theorem spec_l4Out.calls {k : Nat} {x0 : Out} {b0 f0 : Nat} {p0_0 : Value} {w : World} (hc0 : CellsAt w b0 f0 [.int .i64 x0.fValue, p0_0, .int .i64 x0.fRule.fNeed, .int .i64 x0.fRule.fAfter]) (hp0_0 : RdS kInt w p0_0 x0.fRule.fKeys) {r : Int} (H : spec_l4Out.f k x0 = some r) :
  Calls Tryz.prog 48 ([.pointer (some ⟨b0, f0, none⟩)] : List Value).toArray w (fun e w_ => ∃ v, e = .returned v ∧ v = (.int .i64 r) ∧ Mem w [] w_ []) := by
 have HM := Mem.start w
 refine calls_run (N := 13) Tryz.func48 rfl rfl rfl rfl ?_
 unfold spec_l4Out.f at H
 refine run_seq ?_
 refine run_region rfl ?_
 refine ox rfl rfl rfl rfl (ex_assign rfl rfl) ?_
 refine ops_nil (at_then (run_seq ?_))
 refine run_seq ?_
 obtain ⟨t2022, h2023, H⟩ := bind_some H
 refine run_region rfl ?_
 refine ox rfl rfl rfl rfl (ex_move rfl rfl) ?_
 refine ox rfl rfl rfl rfl (ex_nilCheck rfl rfl) ?_
 refine ox rfl rfl rfl rfl (ex_fieldAddr (off' := f0) rfl rfl Tryz.underlying84 rfl tsz2 rfl) ?_
 refine ox rfl rfl rfl rfl (ex_load1 rfl rfl Tryz.underlying2 rfl ((HM.at_ hc0) 0 _ rfl)) ?_
 refine od rfl rfl rfl rfl (does_callk rfl callok45 rfl (spec_l1In.calls (x0 := x0.fValue) (x1 := 1) (x2 := 1000000) h2023)) ?_
 rintro _ w2024 ⟨rfl, hn⟩
 replace HM : Mem w [] w2024 [] := HM.call hn
 refine ox rfl rfl rfl rfl (ex_not rfl rfl) ?_
 refine ops_nil (at_then ?_)
 refine run_cond (b := !t2022) rfl (fun hb2025 => ?_) (fun hb2025 => ?_)
 ·replace H := cond_t hb2025 H
  refine run_seq ?_
  refine run_region rfl ?_
  refine ox rfl rfl rfl rfl (ex_assign rfl rfl) ?_
  refine ops_nil (at_then ?_)
  refine run_ret ?_
  refine at_then_ret ?_
  have hR := Option.some.inj H
  subst hR
  exact at_ret1 rfl rfl ⟨_, rfl, rfl, HM⟩
 ·replace H := cond_f hb2025 H
  refine run_skip ?_
  refine at_then ?_
  refine run_seq ?_
  obtain ⟨t2026, h2027, H⟩ := bind_some H
  refine run_region rfl ?_
  refine ox rfl rfl rfl rfl (ex_move rfl rfl) ?_
  refine ox rfl rfl rfl rfl (ex_nilCheck rfl rfl) ?_
  refine ox rfl rfl rfl rfl (ex_fieldAddr (off' := f0 + 1) rfl rfl Tryz.underlying84 rfl tsz82 rfl) ?_
  refine od rfl rfl rfl rfl (does_callk rfl callok85 rfl (spec_l2Fault.calls (x0 := x0.fRule) (CellsAt.sub (HM.at_ hc0) 1 3 rfl) (HM.rd hp0_0) h2027)) ?_
  rintro _ w2028 ⟨rfl, hn⟩
  replace HM : Mem w [] w2028 [] := HM.call hn
  refine ox rfl rfl rfl rfl (ex_assign rfl rfl) ?_
  refine ops_nil (at_then ?_)
  refine run_ret ?_
  have hR := Option.some.inj H
  subst hR
  exact at_ret1 rfl rfl ⟨_, rfl, rfl, HM⟩

def spec_l4Ahead.f (k : Nat) (x0 : Ref) (x1 : Ref) : Option Bool := (bif (x0.fTx != x1.fTx) then some (decide (x0.fTx < x1.fTx)) else some (decide (x0.fAt < x1.fAt)))
theorem spec_l4Ahead.calls {k : Nat} {x0 : Ref} {x1 : Ref}  {w : World}  {r : Bool} (H : spec_l4Ahead.f k x0 x1 = some r) :
  Calls Tryz.prog 49 ([.agg #[(.int .i64 x0.fTx), (.int .i64 x0.fAt)], .agg #[(.int .i64 x1.fTx), (.int .i64 x1.fAt)]] : List Value).toArray w (fun e w_ => ∃ v, e = .returned v ∧ v = (.bool r) ∧ Mem w [] w_ []) := by
 have HM := Mem.start w
 refine calls_run (N := 20) Tryz.func49 rfl rfl rfl rfl ?_
 unfold spec_l4Ahead.f at H
 refine run_seq ?_
 refine run_region rfl ?_
 refine od rfl rfl rfl rfl (does_box (cs := [.int .i64 x0.fTx, .int .i64 x0.fAt]) rfl rfl rfl HM) ?_
 rintro _ w2061 ⟨b2055, rfl, HM⟩
 refine od rfl rfl rfl rfl (does_box (cs := [.int .i64 x1.fTx, .int .i64 x1.fAt]) rfl rfl rfl HM) ?_
 rintro _ w2062 ⟨b2058, rfl, HM⟩
 refine ox rfl rfl rfl rfl (ex_assign rfl rfl) ?_
 refine ops_nil (at_then (run_seq ?_))
 refine run_seq ?_
 refine run_region rfl ?_
 refine ox rfl rfl rfl rfl (ex_fieldAddr (off' := 0) rfl rfl Tryz.underlying81 rfl tsz2 rfl) ?_
 refine ox rfl rfl rfl rfl (ex_load1 rfl rfl Tryz.underlying2 rfl ((HM.box_at 1 rfl) 0 _ rfl)) ?_
 refine ox rfl rfl rfl rfl (ex_fieldAddr (off' := 0) rfl rfl Tryz.underlying81 rfl tsz2 rfl) ?_
 refine ox rfl rfl rfl rfl (ex_load1 rfl rfl Tryz.underlying2 rfl ((HM.box_at 0 rfl) 0 _ rfl)) ?_
 refine ox rfl rfl rfl rfl (ex_neq rfl rfl rfl) ?_
 refine ops_nil (at_then ?_)
 refine run_cond (b := (x0.fTx != x1.fTx)) rfl (fun hb2064 => ?_) (fun hb2064 => ?_)
 ·replace H := cond_t hb2064 H
  refine run_seq ?_
  refine run_region rfl ?_
  refine ox rfl rfl rfl rfl (ex_fieldAddr (off' := 0) rfl rfl Tryz.underlying81 rfl tsz2 rfl) ?_
  refine ox rfl rfl rfl rfl (ex_load1 rfl rfl Tryz.underlying2 rfl ((HM.box_at 1 rfl) 0 _ rfl)) ?_
  refine ox rfl rfl rfl rfl (ex_fieldAddr (off' := 0) rfl rfl Tryz.underlying81 rfl tsz2 rfl) ?_
  refine ox rfl rfl rfl rfl (ex_load1 rfl rfl Tryz.underlying2 rfl ((HM.box_at 0 rfl) 0 _ rfl)) ?_
  refine ox rfl rfl rfl rfl (ex_lss rfl rfl rfl) ?_
  refine ox rfl rfl rfl rfl (ex_assign rfl rfl) ?_
  refine ops_nil (at_then ?_)
  refine run_ret ?_
  refine at_then_ret ?_
  replace HM := (HM.front 0 rfl rfl).drop
  replace HM := (HM.front 0 rfl rfl).drop
  have hR := Option.some.inj H
  subst hR
  exact at_ret1 rfl rfl ⟨_, rfl, rfl, HM⟩
 ·replace H := cond_f hb2064 H
  refine run_skip ?_
  refine at_then ?_
  refine run_seq ?_
  refine run_region rfl ?_
  refine ox rfl rfl rfl rfl (ex_fieldAddr (off' := 1) rfl rfl Tryz.underlying81 rfl tsz2 rfl) ?_
  refine ox rfl rfl rfl rfl (ex_load1 rfl rfl Tryz.underlying2 rfl ((HM.box_at 1 rfl) 1 _ rfl)) ?_
  refine ox rfl rfl rfl rfl (ex_fieldAddr (off' := 1) rfl rfl Tryz.underlying81 rfl tsz2 rfl) ?_
  refine ox rfl rfl rfl rfl (ex_load1 rfl rfl Tryz.underlying2 rfl ((HM.box_at 0 rfl) 1 _ rfl)) ?_
  refine ox rfl rfl rfl rfl (ex_lss rfl rfl rfl) ?_
  refine ox rfl rfl rfl rfl (ex_assign rfl rfl) ?_
  refine ops_nil (at_then ?_)
  refine run_ret ?_
  replace HM := (HM.front 0 rfl rfl).drop
  replace HM := (HM.front 0 rfl rfl).drop
  have hR := Option.some.inj H
  subst hR
  exact at_ret1 rfl rfl ⟨_, rfl, rfl, HM⟩

def spec_l4Fault.l0 (x0 : List Coin) : Nat → Int → Option (Int ⊕ Unit)
 | 0, _ => none
 | k + 1, a2388 => (bif (decide (a2388 < (x0.length : Int))) then (chk (idxOk a2388 x0.length) ((spec_l3Ref.f k ((gt x0 a2388).fRef)).bind fun t2461 => (chk (!(!(!t2461)) || (idxOk a2388 x0.length)) ((bif (!(!t2461)) then spec_l2Height.f k ((gt x0 a2388).fHeight) else some default).bind fun t2467 => (bif ((!t2461) || (!t2467)) then some (.inl 3) else (chk (idxOk a2388 x0.length) ((spec_l4Out.f k ((gt x0 a2388).fOut)).bind fun t2486 => (bif (t2486 != 0) then some (.inl t2486) else (chk (!(decide (0 < a2388)) || (idxOk (wrap64 (a2388 - 1)) x0.length)) (chk (!(decide (0 < a2388)) || (idxOk a2388 x0.length)) ((bif (decide (0 < a2388)) then spec_l4Ahead.f k ((gt x0 (wrap64 (a2388 - 1))).fRef) ((gt x0 a2388).fRef) else some default).bind fun t2498 => (bif ((decide (0 < a2388)) && (!t2498)) then some (.inl 1) else spec_l4Fault.l0 x0 k (wrap64 (a2388 + 1)))))))))))))) else some (.inr ()))
theorem spec_l4Fault.l0_z (x0 : List Coin) (a2388 : Int) : spec_l4Fault.l0 x0 0 a2388 = none := rfl
theorem spec_l4Fault.l0_s (x0 : List Coin) (k : Nat) (a2388 : Int) : spec_l4Fault.l0 x0 (k + 1) a2388 = (bif (decide (a2388 < (x0.length : Int))) then (chk (idxOk a2388 x0.length) ((spec_l3Ref.f k ((gt x0 a2388).fRef)).bind fun t2461 => (chk (!(!(!t2461)) || (idxOk a2388 x0.length)) ((bif (!(!t2461)) then spec_l2Height.f k ((gt x0 a2388).fHeight) else some default).bind fun t2467 => (bif ((!t2461) || (!t2467)) then some (.inl 3) else (chk (idxOk a2388 x0.length) ((spec_l4Out.f k ((gt x0 a2388).fOut)).bind fun t2486 => (bif (t2486 != 0) then some (.inl t2486) else (chk (!(decide (0 < a2388)) || (idxOk (wrap64 (a2388 - 1)) x0.length)) (chk (!(decide (0 < a2388)) || (idxOk a2388 x0.length)) ((bif (decide (0 < a2388)) then spec_l4Ahead.f k ((gt x0 (wrap64 (a2388 - 1))).fRef) ((gt x0 a2388).fRef) else some default).bind fun t2498 => (bif ((decide (0 < a2388)) && (!t2498)) then some (.inl 1) else spec_l4Fault.l0 x0 k (wrap64 (a2388 + 1)))))))))))))) else some (.inr ())) := rfl
def spec_l4Fault.f (k : Nat) (x0 : List Coin) : Option Int := (bif (decide (40 < (x0.length : Int))) then some 2 else ((spec_l4Fault.l0 x0 k 0).bind fun o2334 => thn o2334 (fun r => some r) (fun _ => some 0)))
theorem spec_l4Fault.calls {k : Nat} {x0 : List Coin} {p0 : Value} {w : World} (hp0 : RdS kCoin w p0 x0) {r : Int} (H : spec_l4Fault.f k x0 = some r) :
  Calls Tryz.prog 22 ([p0] : List Value).toArray w (fun e w_ => ∃ v, e = .returned v ∧ v = (.int .i64 r) ∧ Mem w [] w_ []) := by
 have HM := Mem.start w
 refine calls_run (N := 55) Tryz.func22 rfl rfl rfl rfl ?_
 unfold spec_l4Fault.f at H
 refine run_seq ?_
 refine run_region rfl ?_
 refine ox rfl rfl rfl rfl (ex_assign rfl rfl) ?_
 refine ops_nil (at_then (run_seq ?_))
 refine run_seq ?_
 refine run_region rfl ?_
 refine ox rfl rfl rfl rfl (ex_move rfl rfl) ?_
 refine ox rfl rfl rfl rfl (ex_len (d := kCoin) (xs := x0) rfl rfl Tryz.underlying41 hp0) ?_
 refine ox rfl rfl rfl rfl (ex_gtr rfl rfl rfl) ?_
 refine ops_nil (at_then ?_)
 refine run_cond (b := (decide (40 < (x0.length : Int)))) rfl (fun hb2176 => ?_) (fun hb2176 => ?_)
 ·replace H := cond_t hb2176 H
  refine run_seq ?_
  refine run_region rfl ?_
  refine ox rfl rfl rfl rfl (ex_assign rfl rfl) ?_
  refine ops_nil (at_then ?_)
  refine run_ret ?_
  refine at_then_ret ?_
  have hR := Option.some.inj H
  subst hR
  exact at_ret1 rfl rfl ⟨_, rfl, rfl, HM⟩
 ·replace H := cond_f hb2176 H
  refine run_skip ?_
  refine at_then ?_
  obtain ⟨o2334, ho2335, H⟩ := bind_some H
  refine run_mid (fun ρ_ w_ => Sum.inr () = o2334 ∧ ρ_ = [] ∧ Mem w [] w_ []) ?_ ?_
  ·skip
   refine run_seq ?_
   refine run_region rfl ?_
   refine ox rfl rfl rfl rfl (ex_assign rfl rfl) ?_
   refine ops_nil (at_then ?_)
   refine run_block ?_
   refine run_loop (fun k_ ρ_ w_ => ∃ a2388 : Int, spec_l4Fault.l0 x0 k_ a2388 = some o2334 ∧ ρ_ = [(0, p0), (3, .int .i64 a2388)] ∧ Mem w [] w_ []) k (ρ1 := [(0, p0), (3, .int .i64 0)]) ⟨_, ho2335, rfl, HM⟩ (Sub.cons rfl (Sub.cons rfl Sub.nil)) ?_
   clear HM ho2335
   rintro k2441 _ w2442 ⟨a2388, ho2335, rfl, HM⟩
   obtain _ | k2441 := k2441
   ·exact nomatch ((spec_l4Fault.l0_z x0 a2388).symm.trans ho2335)
   replace ho2335 := (spec_l4Fault.l0_s x0 k2441 a2388).symm.trans ho2335
   refine run_seq ?_
   refine run_seq ?_
   refine run_region rfl ?_
   refine ox rfl rfl rfl rfl (ex_move rfl rfl) ?_
   refine ox rfl rfl rfl rfl (ex_move rfl rfl) ?_
   refine ox rfl rfl rfl rfl (ex_len (d := kCoin) (xs := x0) rfl rfl Tryz.underlying41 hp0) ?_
   refine ox rfl rfl rfl rfl (ex_lss rfl rfl rfl) ?_
   refine ops_nil (at_then ?_)
   refine run_cond (b := (decide (a2388 < (x0.length : Int)))) rfl (fun hb2443 => ?_) (fun hb2443 => ?_)
   ·replace ho2335 := cond_t hb2443 ho2335
    refine run_skip ?_
    refine at_then ?_
    refine run_seq ?_
    refine run_block ?_
    refine run_seq ?_
    refine run_seq ?_
    obtain ⟨e2457, ho2335⟩ := chk_some ho2335
    obtain ⟨t2461, h2462, ho2335⟩ := bind_some ho2335
    obtain ⟨e2463, ho2335⟩ := chk_some ho2335
    obtain ⟨t2467, h2468, ho2335⟩ := bind_some ho2335
    refine run_meet (fun ρ_ w_ => ρ_ = [(0, p0), (3, .int .i64 a2388), (29, .bool ((!t2461) || (!t2467)))] ∧ Mem w [] w_ []) ?_ ?_
    ·skip
     refine run_region rfl ?_
     refine ox rfl rfl rfl rfl (ex_move rfl rfl) ?_
     refine ox rfl rfl rfl rfl (ex_move rfl rfl) ?_
     obtain ⟨kv2459, hc2458, hk2460⟩ : ∃ u, CellsAt _ (sb p0) (so p0 + (a2388).toNat * 8) [(.int .i64 ((gt x0 a2388).fRef.fTx)), (.int .i64 ((gt x0 a2388).fRef.fAt)), (.int .i64 ((gt x0 a2388).fOut.fValue)), u, (.int .i64 ((gt x0 a2388).fOut.fRule.fNeed)), (.int .i64 ((gt x0 a2388).fOut.fRule.fAfter)), (.int .i64 ((gt x0 a2388).fHeight)), (.bool ((gt x0 a2388).fMined))] ∧ RdS kInt _ u ((gt x0 a2388).fOut.fRule.fKeys) := rd_with1 hp0 e2457
     refine ox rfl rfl rfl rfl (ex_indexAddr (d := kCoin) rfl rfl rfl Tryz.underlying41 tsz86 hp0 (idx_lo e2457) (idx_hi e2457)) ?_
     refine ox rfl rfl rfl rfl (ex_fieldAddr (off' := so p0 + (a2388).toNat * 8) rfl rfl Tryz.underlying86 rfl tsz81 rfl) ?_
     refine ox rfl rfl rfl rfl (ex_loadN (cs := [(.int .i64 ((gt x0 a2388).fRef.fTx)), (.int .i64 ((gt x0 a2388).fRef.fAt))]) rfl rfl Tryz.underlying81 rfl tsz81 rfl ((HM.at_ hc2458).sub 0 2 rfl)) ?_
     refine od rfl rfl rfl rfl (does_callk rfl callok47 rfl (spec_l3Ref.calls (x0 := (gt x0 a2388).fRef) h2462)) ?_
     rintro _ w2469 ⟨rfl, hn⟩
     replace HM : Mem w [] w2469 [] := HM.call hn
     refine ox rfl rfl rfl rfl (ex_not rfl rfl) ?_
     refine ox rfl rfl rfl rfl (ex_move rfl rfl) ?_
     refine bool_cases (!t2461) (fun hg2470 => ?_) (fun hg2470 => ?_)
     ·skip
      refine ops_off rfl (guard_off rfl rfl rfl hg2470) rfl rfl ?_
      refine ops_off rfl (guard_off rfl rfl rfl hg2470) rfl rfl ?_
      refine ops_off rfl (guard_off rfl rfl rfl hg2470) rfl rfl ?_
      refine ops_off rfl (guard_off rfl rfl rfl hg2470) rfl rfl ?_
      refine ops_off rfl (guard_off rfl rfl rfl hg2470) rfl rfl ?_
      refine ops_off rfl (guard_off rfl rfl rfl hg2470) rfl rfl ?_
      refine ops_off rfl (guard_off rfl rfl rfl hg2470) rfl rfl ?_
      have hg2471 : ((!t2461) || (!t2467)) = true := by simp only [hg2470, Bool.and_true, Bool.true_and, Bool.and_false, Bool.false_and, Bool.or_true, Bool.true_or, Bool.or_false, Bool.false_or, Bool.not_true, Bool.not_false, Bool.not_not]
      refine ops_ex (v := .bool ((!t2461) || (!t2467))) rfl (guard_none rfl) rfl rfl (ex_por_t rfl rfl hg2470) ?_
      refine ops_nil ?_
      exact at_meet [(0, p0), (3, .int .i64 a2388), (29, .bool ((!t2461) || (!t2467)))] ⟨rfl, HM⟩ (Sub.cons rfl (Sub.cons rfl (Sub.cons rfl Sub.nil)))
     ·skip
      refine ops_ex rfl (guard_on rfl rfl rfl hg2470) rfl rfl (ex_move rfl rfl) ?_
      refine ops_ex rfl (guard_on rfl rfl rfl hg2470) rfl rfl (ex_move rfl rfl) ?_
      obtain ⟨kv2465, hc2464, hk2466⟩ : ∃ u, CellsAt _ (sb p0) (so p0 + (a2388).toNat * 8) [(.int .i64 ((gt x0 a2388).fRef.fTx)), (.int .i64 ((gt x0 a2388).fRef.fAt)), (.int .i64 ((gt x0 a2388).fOut.fValue)), u, (.int .i64 ((gt x0 a2388).fOut.fRule.fNeed)), (.int .i64 ((gt x0 a2388).fOut.fRule.fAfter)), (.int .i64 ((gt x0 a2388).fHeight)), (.bool ((gt x0 a2388).fMined))] ∧ RdS kInt _ u ((gt x0 a2388).fOut.fRule.fKeys) := rd_with1 hp0 (or_t e2463 (not_mk hg2470))
      refine ops_ex rfl (guard_on rfl rfl rfl hg2470) rfl rfl (ex_indexAddr (d := kCoin) rfl rfl rfl Tryz.underlying41 tsz86 hp0 (idx_lo (or_t e2463 (not_mk hg2470))) (idx_hi (or_t e2463 (not_mk hg2470)))) ?_
      refine ops_ex rfl (guard_on rfl rfl rfl hg2470) rfl rfl (ex_fieldAddr (off' := so p0 + (a2388).toNat * 8 + 6) rfl rfl Tryz.underlying86 rfl tsz2 rfl) ?_
      refine ops_ex rfl (guard_on rfl rfl rfl hg2470) rfl rfl (ex_load1 rfl rfl Tryz.underlying2 rfl ((HM.at_ hc2464) 6 _ rfl)) ?_
      refine ops_does rfl (guard_on rfl rfl rfl hg2470) rfl rfl (does_callk rfl callok24 rfl (spec_l2Height.calls (x0 := (gt x0 a2388).fHeight) (cond_t (not_mk hg2470) h2468))) ?_
      rintro _ w2472 ⟨rfl, hn⟩
      replace HM : Mem w [] w2472 [] := HM.call hn
      refine ops_ex rfl (guard_on rfl rfl rfl hg2470) rfl rfl (ex_not rfl rfl) ?_
      refine ops_ex (v := .bool ((!t2461) || (!t2467))) rfl (guard_none rfl) rfl rfl (ex_por_f rfl rfl hg2470 rfl) ?_
      refine ops_nil ?_
      exact at_meet [(0, p0), (3, .int .i64 a2388), (29, .bool ((!t2461) || (!t2467)))] ⟨rfl, HM⟩ (Sub.cons rfl (Sub.cons rfl (Sub.cons rfl Sub.nil)))
    ·rintro _ w2473 ⟨rfl, HM⟩
     refine at_then ?_
     refine run_cond (b := ((!t2461) || (!t2467))) rfl (fun hb2474 => ?_) (fun hb2474 => ?_)
     ·replace ho2335 := cond_t hb2474 ho2335
      refine run_seq ?_
      refine run_region rfl ?_
      refine ox rfl rfl rfl rfl (ex_assign rfl rfl) ?_
      refine ops_nil (at_then ?_)
      refine run_ret ?_
      refine at_then_ret ?_
      refine at_block_ret ?_
      refine at_then_ret ?_
      refine at_then_ret ?_
      refine at_block_ret ?_
      refine at_then_ret ?_
      have hR := Option.some.inj ho2335
      subst hR
      have hT := thn_inl H
      have hR := Option.some.inj hT
      subst hR
      exact at_ret1 rfl rfl ⟨_, rfl, rfl, HM⟩
     ·replace ho2335 := cond_f hb2474 ho2335
      refine run_skip ?_
      refine at_then ?_
      refine run_seq ?_
      refine run_seq ?_
      obtain ⟨e2482, ho2335⟩ := chk_some ho2335
      obtain ⟨t2486, h2487, ho2335⟩ := bind_some ho2335
      refine run_region rfl ?_
      refine ox rfl rfl rfl rfl (ex_move rfl rfl) ?_
      refine ox rfl rfl rfl rfl (ex_move rfl rfl) ?_
      obtain ⟨kv2484, hc2483, hk2485⟩ : ∃ u, CellsAt _ (sb p0) (so p0 + (a2388).toNat * 8) [(.int .i64 ((gt x0 a2388).fRef.fTx)), (.int .i64 ((gt x0 a2388).fRef.fAt)), (.int .i64 ((gt x0 a2388).fOut.fValue)), u, (.int .i64 ((gt x0 a2388).fOut.fRule.fNeed)), (.int .i64 ((gt x0 a2388).fOut.fRule.fAfter)), (.int .i64 ((gt x0 a2388).fHeight)), (.bool ((gt x0 a2388).fMined))] ∧ RdS kInt _ u ((gt x0 a2388).fOut.fRule.fKeys) := rd_with1 hp0 e2482
      refine ox rfl rfl rfl rfl (ex_indexAddr (d := kCoin) rfl rfl rfl Tryz.underlying41 tsz86 hp0 (idx_lo e2482) (idx_hi e2482)) ?_
      refine ox rfl rfl rfl rfl (ex_fieldAddr (off' := so p0 + (a2388).toNat * 8 + 2) rfl rfl Tryz.underlying86 rfl tsz84 rfl) ?_
      refine od rfl rfl rfl rfl (does_callk rfl callok48 rfl (spec_l4Out.calls (x0 := (gt x0 a2388).fOut) (CellsAt.sub (HM.at_ hc2483) 2 4 rfl) (HM.rd hk2485) h2487)) ?_
      rintro _ w2488 ⟨rfl, hn⟩
      replace HM : Mem w [] w2488 [] := HM.call hn
      refine ox rfl rfl rfl rfl (ex_assign rfl rfl) ?_
      refine ops_nil (at_then (run_seq ?_))
      refine run_region rfl ?_
      refine ox rfl rfl rfl rfl (ex_move rfl rfl) ?_
      refine ox rfl rfl rfl rfl (ex_neq rfl rfl rfl) ?_
      refine ops_nil (at_then ?_)
      refine run_cond (b := (t2486 != 0)) rfl (fun hb2489 => ?_) (fun hb2489 => ?_)
      ·replace ho2335 := cond_t hb2489 ho2335
       refine run_seq ?_
       refine run_region rfl ?_
       refine ox rfl rfl rfl rfl (ex_move rfl rfl) ?_
       refine ox rfl rfl rfl rfl (ex_assign rfl rfl) ?_
       refine ops_nil (at_then ?_)
       refine run_ret ?_
       refine at_then_ret ?_
       refine at_block_ret ?_
       refine at_then_ret ?_
       refine at_then_ret ?_
       refine at_block_ret ?_
       refine at_then_ret ?_
       have hR := Option.some.inj ho2335
       subst hR
       have hT := thn_inl H
       have hR := Option.some.inj hT
       subst hR
       exact at_ret1 rfl rfl ⟨_, rfl, rfl, HM⟩
      ·replace ho2335 := cond_f hb2489 ho2335
       refine run_skip ?_
       refine at_then ?_
       refine run_seq ?_
       obtain ⟨e2490, ho2335⟩ := chk_some ho2335
       obtain ⟨e2494, ho2335⟩ := chk_some ho2335
       obtain ⟨t2498, h2499, ho2335⟩ := bind_some ho2335
       refine run_meet (fun ρ_ w_ => ρ_ = [(0, p0), (3, .int .i64 a2388), (54, .bool ((decide (0 < a2388)) && (!t2498)))] ∧ Mem w [] w_ []) ?_ ?_
       ·skip
        refine run_drawf (fun w_ => Mem w [] w_ []) [(0, true), (1, true), (2, true), (3, true), (4, true), (5, true), (6, true), (7, true), (8, true), (9, true), (10, true), (11, true), (12, true), (13, true), (14, false), (15, true), (16, true)] mixed rfl rfl (by kernel_rfl) ?_
        replace HM := HM.grow (fr_drew _)
        have hS := Mem.suf (M := []) HM
        refine dp rfl rfl rfl rfl (ex_move rfl rfl) hS ?_
        refine dp rfl rfl rfl rfl (ex_gtr rfl rfl rfl) hS ?_
        refine dp rfl rfl rfl rfl (ex_move rfl rfl) hS ?_
        refine bool_cases (decide (0 < a2388)) (fun hg2500 => ?_) (fun hg2500 => ?_)
        ·skip
         refine drwp_take rfl (guard_on rfl rfl rfl hg2500) rfl rfl (fun w_ hS_ => (ex_move rfl rfl)) hS ?_
         refine drwp_take rfl (guard_on rfl rfl rfl hg2500) rfl rfl (fun w_ hS_ => (ex_move rfl rfl)) hS ?_
         refine drwp_take rfl (guard_on rfl rfl rfl hg2500) rfl rfl (fun w_ hS_ => (ex_sub rfl rfl rfl)) hS ?_
         obtain ⟨kv2492, hc2491, hk2493⟩ : ∃ u, CellsAt _ (sb p0) (so p0 + (wrap64 (a2388 - 1)).toNat * 8) [(.int .i64 ((gt x0 (wrap64 (a2388 - 1))).fRef.fTx)), (.int .i64 ((gt x0 (wrap64 (a2388 - 1))).fRef.fAt)), (.int .i64 ((gt x0 (wrap64 (a2388 - 1))).fOut.fValue)), u, (.int .i64 ((gt x0 (wrap64 (a2388 - 1))).fOut.fRule.fNeed)), (.int .i64 ((gt x0 (wrap64 (a2388 - 1))).fOut.fRule.fAfter)), (.int .i64 ((gt x0 (wrap64 (a2388 - 1))).fHeight)), (.bool ((gt x0 (wrap64 (a2388 - 1))).fMined))] ∧ RdS kInt _ u ((gt x0 (wrap64 (a2388 - 1))).fOut.fRule.fKeys) := rd_with1 hp0 (or_t e2490 hg2500)
         refine drwp_take rfl (guard_on rfl rfl rfl hg2500) rfl rfl (fun w_ hS_ => (ex_indexAddr (d := kCoin) rfl rfl rfl Tryz.underlying41 tsz86 hp0 (idx_lo (or_t e2490 hg2500)) (idx_hi (or_t e2490 hg2500)))) hS ?_
         refine drwp_take rfl (guard_on rfl rfl rfl hg2500) rfl rfl (fun w_ hS_ => (ex_fieldAddr (off' := so p0 + (wrap64 (a2388 - 1)).toNat * 8) rfl rfl Tryz.underlying86 rfl tsz81 rfl)) hS ?_
         refine drwp_take rfl (guard_on rfl rfl rfl hg2500) rfl rfl (fun w_ hS_ => (ex_loadN (cs := [(.int .i64 ((gt x0 (wrap64 (a2388 - 1))).fRef.fTx)), (.int .i64 ((gt x0 (wrap64 (a2388 - 1))).fRef.fAt))]) rfl rfl Tryz.underlying81 rfl tsz81 rfl ((hS_.at_ hc2491).sub 0 2 rfl))) hS ?_
         refine drwp_take rfl (guard_on rfl rfl rfl hg2500) rfl rfl (fun w_ hS_ => (ex_move rfl rfl)) hS ?_
         refine drwp_take rfl (guard_on rfl rfl rfl hg2500) rfl rfl (fun w_ hS_ => (ex_move rfl rfl)) hS ?_
         obtain ⟨kv2496, hc2495, hk2497⟩ : ∃ u, CellsAt _ (sb p0) (so p0 + (a2388).toNat * 8) [(.int .i64 ((gt x0 a2388).fRef.fTx)), (.int .i64 ((gt x0 a2388).fRef.fAt)), (.int .i64 ((gt x0 a2388).fOut.fValue)), u, (.int .i64 ((gt x0 a2388).fOut.fRule.fNeed)), (.int .i64 ((gt x0 a2388).fOut.fRule.fAfter)), (.int .i64 ((gt x0 a2388).fHeight)), (.bool ((gt x0 a2388).fMined))] ∧ RdS kInt _ u ((gt x0 a2388).fOut.fRule.fKeys) := rd_with1 hp0 (or_t e2494 hg2500)
         refine drwp_take rfl (guard_on rfl rfl rfl hg2500) rfl rfl (fun w_ hS_ => (ex_indexAddr (d := kCoin) rfl rfl rfl Tryz.underlying41 tsz86 hp0 (idx_lo (or_t e2494 hg2500)) (idx_hi (or_t e2494 hg2500)))) hS ?_
         refine drwp_take rfl (guard_on rfl rfl rfl hg2500) rfl rfl (fun w_ hS_ => (ex_fieldAddr (off' := so p0 + (a2388).toNat * 8) rfl rfl Tryz.underlying86 rfl tsz81 rfl)) hS ?_
         refine drwp_take rfl (guard_on rfl rfl rfl hg2500) rfl rfl (fun w_ hS_ => (ex_loadN (cs := [(.int .i64 ((gt x0 a2388).fRef.fTx)), (.int .i64 ((gt x0 a2388).fRef.fAt))]) rfl rfl Tryz.underlying81 rfl tsz81 rfl ((hS_.at_ hc2495).sub 0 2 rfl))) hS ?_
         refine drwp_one rfl (guard_on rfl rfl rfl hg2500) rfl rfl (does_callk rfl callok49 rfl (spec_l4Ahead.calls (x0 := (gt x0 (wrap64 (a2388 - 1))).fRef) (x1 := (gt x0 a2388).fRef) (cond_t hg2500 h2499))) ?_
         rintro _ w2501 ⟨rfl, hn⟩
         replace HM : Mem w [] w2501 [] := HM.call hn
         have hS := Mem.suf (M := []) HM
         refine ⟨hS, ?_⟩
         refine drwp_take rfl (guard_on rfl rfl rfl hg2500) rfl rfl (fun w_ hS_ => (ex_not rfl rfl)) hS ?_
         refine drwp_take (v := .bool ((decide (0 < a2388)) && (!t2498))) rfl (guard_none rfl) rfl rfl (fun w_ hS_ => (ex_pand_t rfl rfl hg2500 rfl)) hS ?_
         refine drwp_done ?_
         exact at_meet [(0, p0), (3, .int .i64 a2388), (54, .bool ((decide (0 < a2388)) && (!t2498)))] ⟨rfl, HM⟩ (Sub.cons rfl (Sub.cons rfl (Sub.cons rfl Sub.nil)))
        ·skip
         refine drwp_off rfl (guard_off rfl rfl rfl hg2500) rfl rfl hS ?_
         refine drwp_off rfl (guard_off rfl rfl rfl hg2500) rfl rfl hS ?_
         refine drwp_off rfl (guard_off rfl rfl rfl hg2500) rfl rfl hS ?_
         refine drwp_off rfl (guard_off rfl rfl rfl hg2500) rfl rfl hS ?_
         refine drwp_off rfl (guard_off rfl rfl rfl hg2500) rfl rfl hS ?_
         refine drwp_off rfl (guard_off rfl rfl rfl hg2500) rfl rfl hS ?_
         refine drwp_off rfl (guard_off rfl rfl rfl hg2500) rfl rfl hS ?_
         refine drwp_off rfl (guard_off rfl rfl rfl hg2500) rfl rfl hS ?_
         refine drwp_off rfl (guard_off rfl rfl rfl hg2500) rfl rfl hS ?_
         refine drwp_off rfl (guard_off rfl rfl rfl hg2500) rfl rfl hS ?_
         refine drwp_off rfl (guard_off rfl rfl rfl hg2500) rfl rfl hS ?_
         refine drwp_off1 rfl (guard_off rfl rfl rfl hg2500) rfl rfl ⟨hS, ?_⟩
         refine drwp_off rfl (guard_off rfl rfl rfl hg2500) rfl rfl hS ?_
         have hg2502 : ((decide (0 < a2388)) && (!t2498)) = false := by simp only [hg2500, Bool.and_true, Bool.true_and, Bool.and_false, Bool.false_and, Bool.or_true, Bool.true_or, Bool.or_false, Bool.false_or, Bool.not_true, Bool.not_false, Bool.not_not]
         refine drwp_take (v := .bool ((decide (0 < a2388)) && (!t2498))) rfl (guard_none rfl) rfl rfl (fun w_ hS_ => (ex_pand_f rfl rfl hg2500)) hS ?_
         refine drwp_done ?_
         exact at_meet [(0, p0), (3, .int .i64 a2388), (54, .bool ((decide (0 < a2388)) && (!t2498)))] ⟨rfl, HM⟩ (Sub.cons rfl (Sub.cons rfl (Sub.cons rfl Sub.nil)))
       ·rintro _ w2503 ⟨rfl, HM⟩
        refine at_then ?_
        refine run_cond (b := ((decide (0 < a2388)) && (!t2498))) rfl (fun hb2504 => ?_) (fun hb2504 => ?_)
        ·replace ho2335 := cond_t hb2504 ho2335
         refine run_seq ?_
         refine run_region rfl ?_
         refine ox rfl rfl rfl rfl (ex_assign rfl rfl) ?_
         refine ops_nil (at_then ?_)
         refine run_ret ?_
         refine at_block_ret ?_
         refine at_then_ret ?_
         refine at_then_ret ?_
         refine at_block_ret ?_
         refine at_then_ret ?_
         have hR := Option.some.inj ho2335
         subst hR
         have hT := thn_inl H
         have hR := Option.some.inj hT
         subst hR
         exact at_ret1 rfl rfl ⟨_, rfl, rfl, HM⟩
        ·replace ho2335 := cond_f hb2504 ho2335
         refine run_skip ?_
         refine at_block ?_
         refine at_then ?_
         refine run_region rfl ?_
         refine ox rfl rfl rfl rfl (ex_move rfl rfl) ?_
         refine ox rfl rfl rfl rfl (ex_add rfl rfl rfl) ?_
         refine ox rfl rfl rfl rfl (ex_assign rfl rfl) ?_
         refine ops_nil ?_
         exact at_again k2441 (ρ1 := [(0, p0), (3, .int .i64 (wrap64 (a2388 + 1)))]) (Nat.lt_succ_self _) ⟨_, ho2335, rfl, HM⟩ (Sub.cons rfl (Sub.cons rfl Sub.nil))
   ·replace ho2335 := cond_f hb2443 ho2335
    refine run_exit ?_
    refine at_then_exit ?_
    refine at_then_exit ?_
    refine at_block_exit ?_
    exact at_mid (ρ' := []) ⟨(Option.some.inj ho2335), rfl, HM⟩ Sub.nil
  ·rintro _ w2505 ⟨rfl, rfl, HM⟩
   replace H := (thn_inr H)
   refine run_seq ?_
   refine run_region rfl ?_
   refine ox rfl rfl rfl rfl (ex_assign rfl rfl) ?_
   refine ops_nil (at_then ?_)
   refine run_ret ?_
   have hR := Option.some.inj H
   subst hR
   exact at_ret1 rfl rfl ⟨_, rfl, rfl, HM⟩

def spec_l3Among.l0 (x0 : List Ref) (x1 : Ref) : Nat → Int → Option (Bool ⊕ Unit)
 | 0, _ => none
 | k + 1, a2592 => (bif (decide (a2592 < (x0.length : Int))) then (chk (idxOk a2592 x0.length) (bif ((((gt x0 a2592).fTx) == x1.fTx) && (((gt x0 a2592).fAt) == x1.fAt)) then some (.inl true) else spec_l3Among.l0 x0 x1 k (wrap64 (a2592 + 1)))) else some (.inr ()))
theorem spec_l3Among.l0_z (x0 : List Ref) (x1 : Ref) (a2592 : Int) : spec_l3Among.l0 x0 x1 0 a2592 = none := rfl
theorem spec_l3Among.l0_s (x0 : List Ref) (x1 : Ref) (k : Nat) (a2592 : Int) : spec_l3Among.l0 x0 x1 (k + 1) a2592 = (bif (decide (a2592 < (x0.length : Int))) then (chk (idxOk a2592 x0.length) (bif ((((gt x0 a2592).fTx) == x1.fTx) && (((gt x0 a2592).fAt) == x1.fAt)) then some (.inl true) else spec_l3Among.l0 x0 x1 k (wrap64 (a2592 + 1)))) else some (.inr ())) := rfl
def spec_l3Among.f (k : Nat) (x0 : List Ref) (x1 : Ref) : Option Bool := ((spec_l3Among.l0 x0 x1 k 0).bind fun o2586 => thn o2586 (fun r => some r) (fun _ => some false))
theorem spec_l3Among.calls {k : Nat} {x0 : List Ref} {x1 : Ref} {p0 : Value} {w : World} (hp0 : RdS kRef w p0 x0) {r : Bool} (H : spec_l3Among.f k x0 x1 = some r) :
  Calls Tryz.prog 50 ([p0, .agg #[(.int .i64 x1.fTx), (.int .i64 x1.fAt)]] : List Value).toArray w (fun e w_ => ∃ v, e = .returned v ∧ v = (.bool r) ∧ Mem w [] w_ []) := by
 have HM := Mem.start w
 refine calls_run (N := 18) Tryz.func50 rfl rfl rfl rfl ?_
 unfold spec_l3Among.f at H
 refine run_seq ?_
 refine run_region rfl ?_
 refine od rfl rfl rfl rfl (does_box (cs := [.int .i64 x1.fTx, .int .i64 x1.fAt]) rfl rfl rfl HM) ?_
 rintro _ w2572 ⟨b2569, rfl, HM⟩
 refine ox rfl rfl rfl rfl (ex_assign rfl rfl) ?_
 refine ops_nil (at_then ?_)
 obtain ⟨o2586, ho2587, H⟩ := bind_some H
 refine run_mid (fun ρ_ w_ => Sum.inr () = o2586 ∧ ρ_ = [] ∧ Mem w [] w_ []) ?_ ?_
 ·skip
  refine run_seq ?_
  refine run_region rfl ?_
  refine ox rfl rfl rfl rfl (ex_assign rfl rfl) ?_
  refine ops_nil (at_then ?_)
  refine run_block ?_
  refine run_loop (fun k_ ρ_ w_ => ∃ a2592 : Int, spec_l3Among.l0 x0 x1 k_ a2592 = some o2586 ∧ ρ_ = [(0, p0), (3, .pointer (some ⟨b2569, 0, none⟩)), (5, .int .i64 a2592)] ∧ Mem w [] w_ [box b2569 81 [.int .i64 x1.fTx, .int .i64 x1.fAt]]) k (ρ1 := [(0, p0), (3, .pointer (some ⟨b2569, 0, none⟩)), (5, .int .i64 0)]) ⟨_, ho2587, rfl, HM⟩ (Sub.cons rfl (Sub.cons rfl (Sub.cons rfl Sub.nil))) ?_
  clear HM ho2587
  rintro k2597 _ w2598 ⟨a2592, ho2587, rfl, HM⟩
  obtain _ | k2597 := k2597
  ·exact nomatch ((spec_l3Among.l0_z x0 x1 a2592).symm.trans ho2587)
  replace ho2587 := (spec_l3Among.l0_s x0 x1 k2597 a2592).symm.trans ho2587
  refine run_seq ?_
  refine run_seq ?_
  refine run_region rfl ?_
  refine ox rfl rfl rfl rfl (ex_move rfl rfl) ?_
  refine ox rfl rfl rfl rfl (ex_move rfl rfl) ?_
  refine ox rfl rfl rfl rfl (ex_len (d := kRef) (xs := x0) rfl rfl Tryz.underlying43 hp0) ?_
  refine ox rfl rfl rfl rfl (ex_lss rfl rfl rfl) ?_
  refine ops_nil (at_then ?_)
  refine run_cond (b := (decide (a2592 < (x0.length : Int)))) rfl (fun hb2599 => ?_) (fun hb2599 => ?_)
  ·replace ho2587 := cond_t hb2599 ho2587
   refine run_skip ?_
   refine at_then ?_
   refine run_seq ?_
   refine run_block ?_
   refine run_seq ?_
   obtain ⟨e2600, ho2587⟩ := chk_some ho2587
   refine run_drawf (fun w_ => Mem w [] w_ [box b2569 81 [.int .i64 x1.fTx, .int .i64 x1.fAt]]) [(0, true), (1, true), (2, true), (3, true), (4, true), (5, true)] mixed rfl rfl (by kernel_rfl) ?_
   replace HM := HM.grow (fr_drew _)
   have hS := Mem.suf (M := []) HM
   refine dp rfl rfl rfl rfl (ex_move rfl rfl) hS ?_
   refine dp rfl rfl rfl rfl (ex_move rfl rfl) hS ?_
   have hc2601 : CellsAt _ (sb p0) (so p0 + (a2592).toNat * 2) [(.int .i64 ((gt x0 a2592).fTx)), (.int .i64 ((gt x0 a2592).fAt))] := rd_plain hp0 e2600
   refine dp rfl rfl rfl rfl (ex_indexAddr (d := kRef) rfl rfl rfl Tryz.underlying43 tsz81 hp0 (idx_lo e2600) (idx_hi e2600)) hS ?_
   refine drwp_take rfl (guard_none rfl) rfl rfl (fun w_ hS_ => (ex_loadN (cs := [(.int .i64 ((gt x0 a2592).fTx)), (.int .i64 ((gt x0 a2592).fAt))]) rfl rfl Tryz.underlying81 rfl tsz81 rfl ((hS_.at_ hc2601).sub 0 2 rfl))) hS ?_
   refine drwp_take rfl (guard_none rfl) rfl rfl (fun w_ hS_ => (ex_loadN (cs := [(.int .i64 x1.fTx), (.int .i64 x1.fAt)]) rfl rfl Tryz.underlying81 rfl tsz81 rfl ((hS_.box_at 0 rfl).sub 0 2 rfl))) hS ?_
   refine dp rfl rfl rfl rfl (ex_aeql rfl rfl rfl (by kernel_rfl) (eqs81 _ _ _ _ _)) hS ?_
   refine drwp_done ?_
   refine at_then ?_
   refine run_cond (b := ((((gt x0 a2592).fTx) == x1.fTx) && (((gt x0 a2592).fAt) == x1.fAt))) rfl (fun hb2602 => ?_) (fun hb2602 => ?_)
   ·replace ho2587 := cond_t hb2602 ho2587
    refine run_seq ?_
    refine run_region rfl ?_
    refine ox rfl rfl rfl rfl (ex_assign rfl rfl) ?_
    refine ops_nil (at_then ?_)
    refine run_ret ?_
    refine at_block_ret ?_
    refine at_then_ret ?_
    refine at_then_ret ?_
    refine at_block_ret ?_
    refine at_then_ret ?_
    replace HM := (HM.front 0 rfl rfl).drop
    have hR := Option.some.inj ho2587
    subst hR
    have hT := thn_inl H
    have hR := Option.some.inj hT
    subst hR
    exact at_ret1 rfl rfl ⟨_, rfl, rfl, HM⟩
   ·replace ho2587 := cond_f hb2602 ho2587
    refine run_skip ?_
    refine at_block ?_
    refine at_then ?_
    refine run_region rfl ?_
    refine ox rfl rfl rfl rfl (ex_move rfl rfl) ?_
    refine ox rfl rfl rfl rfl (ex_add rfl rfl rfl) ?_
    refine ox rfl rfl rfl rfl (ex_assign rfl rfl) ?_
    refine ops_nil ?_
    exact at_again k2597 (ρ1 := [(0, p0), (3, .pointer (some ⟨b2569, 0, none⟩)), (5, .int .i64 (wrap64 (a2592 + 1)))]) (Nat.lt_succ_self _) ⟨_, ho2587, rfl, HM⟩ (Sub.cons rfl (Sub.cons rfl (Sub.cons rfl Sub.nil)))
  ·replace ho2587 := cond_f hb2599 ho2587
   refine run_exit ?_
   refine at_then_exit ?_
   refine at_then_exit ?_
   refine at_block_exit ?_
   replace HM := (HM.front 0 rfl rfl).drop
   exact at_mid (ρ' := []) ⟨(Option.some.inj ho2587), rfl, HM⟩ Sub.nil
 ·rintro _ w2603 ⟨rfl, rfl, HM⟩
  replace H := (thn_inr H)
  refine run_seq ?_
  refine run_region rfl ?_
  refine ox rfl rfl rfl rfl (ex_assign rfl rfl) ?_
  refine ops_nil (at_then ?_)
  refine run_ret ?_
  have hR := Option.some.inj H
  subst hR
  exact at_ret1 rfl rfl ⟨_, rfl, rfl, HM⟩

def spec_l3Outs.l0 (x0 : Tx) : Nat → Int → Option (Int ⊕ Unit)
 | 0, _ => none
 | k + 1, a2815 => (bif (decide (a2815 < (x0.fOuts.length : Int))) then (chk (idxOk a2815 x0.fOuts.length) ((spec_l1In.f k ((gt x0.fOuts a2815).fValue) 1 1000000).bind fun t2852 => (bif !t2852 then some (.inl 3) else (chk (idxOk a2815 x0.fOuts.length) ((spec_l2Fault.f k ((gt x0.fOuts a2815).fRule)).bind fun t2860 => (bif (t2860 != 0) then some (.inl t2860) else spec_l3Outs.l0 x0 k (wrap64 (a2815 + 1)))))))) else some (.inr ()))
theorem spec_l3Outs.l0_z (x0 : Tx) (a2815 : Int) : spec_l3Outs.l0 x0 0 a2815 = none := rfl
theorem spec_l3Outs.l0_s (x0 : Tx) (k : Nat) (a2815 : Int) : spec_l3Outs.l0 x0 (k + 1) a2815 = (bif (decide (a2815 < (x0.fOuts.length : Int))) then (chk (idxOk a2815 x0.fOuts.length) ((spec_l1In.f k ((gt x0.fOuts a2815).fValue) 1 1000000).bind fun t2852 => (bif !t2852 then some (.inl 3) else (chk (idxOk a2815 x0.fOuts.length) ((spec_l2Fault.f k ((gt x0.fOuts a2815).fRule)).bind fun t2860 => (bif (t2860 != 0) then some (.inl t2860) else spec_l3Outs.l0 x0 k (wrap64 (a2815 + 1)))))))) else some (.inr ())) := rfl
def spec_l3Outs.f (k : Nat) (x0 : Tx) : Option Int := ((spec_l3Outs.l0 x0 k 0).bind fun o2791 => thn o2791 (fun r => some r) (fun _ => (chk (!(x0.fKind == 1) || (idxOk (0 : Int) x0.fOuts.length)) (bif ((x0.fKind == 1) && (decide (((gt x0.fOuts (0 : Int)).fValue) < 100))) then some 8 else some 0))))
theorem spec_l3Outs.calls {k : Nat} {x0 : Tx} {b0 f0 : Nat} {p0_0 : Value} {p0_1 : Value} {w : World} (hc0 : CellsAt w b0 f0 [.int .i64 x0.fKind, .int .i64 x0.fMember, p0_0, p0_1]) (hp0_0 : RdS kRef w p0_0 x0.fIns) (hp0_1 : RdS kOut w p0_1 x0.fOuts) {r : Int} (H : spec_l3Outs.f k x0 = some r) :
  Calls Tryz.prog 51 ([.pointer (some ⟨b0, f0, none⟩)] : List Value).toArray w (fun e w_ => ∃ v, e = .returned v ∧ v = (.int .i64 r) ∧ Mem w [] w_ []) := by
 have HM := Mem.start w
 refine calls_run (N := 50) Tryz.func51 rfl rfl rfl rfl ?_
 unfold spec_l3Outs.f at H
 refine run_seq ?_
 refine run_region rfl ?_
 refine ox rfl rfl rfl rfl (ex_assign rfl rfl) ?_
 refine ops_nil (at_then ?_)
 obtain ⟨o2791, ho2792, H⟩ := bind_some H
 refine run_mid (fun ρ_ w_ => Sum.inr () = o2791 ∧ ρ_ = [(0, .pointer (some ⟨b0, f0, none⟩))] ∧ Mem w [] w_ []) ?_ ?_
 ·skip
  refine run_seq ?_
  refine run_region rfl ?_
  refine ox rfl rfl rfl rfl (ex_assign rfl rfl) ?_
  refine ops_nil (at_then ?_)
  refine run_block ?_
  refine run_loop (fun k_ ρ_ w_ => ∃ a2815 : Int, spec_l3Outs.l0 x0 k_ a2815 = some o2791 ∧ ρ_ = [(0, .pointer (some ⟨b0, f0, none⟩)), (3, .int .i64 a2815)] ∧ Mem w [] w_ []) k (ρ1 := [(0, .pointer (some ⟨b0, f0, none⟩)), (3, .int .i64 0)]) ⟨_, ho2792, rfl, HM⟩ (Sub.cons rfl (Sub.cons rfl Sub.nil)) ?_
  clear HM ho2792
  rintro k2838 _ w2839 ⟨a2815, ho2792, rfl, HM⟩
  obtain _ | k2838 := k2838
  ·exact nomatch ((spec_l3Outs.l0_z x0 a2815).symm.trans ho2792)
  replace ho2792 := (spec_l3Outs.l0_s x0 k2838 a2815).symm.trans ho2792
  refine run_seq ?_
  refine run_seq ?_
  refine run_region rfl ?_
  refine ox rfl rfl rfl rfl (ex_move rfl rfl) ?_
  refine ox rfl rfl rfl rfl (ex_move rfl rfl) ?_
  refine ox rfl rfl rfl rfl (ex_nilCheck rfl rfl) ?_
  refine ox rfl rfl rfl rfl (ex_fieldAddr (off' := f0 + 3) rfl rfl Tryz.underlying46 rfl tsz44 rfl) ?_
  refine ox rfl rfl rfl rfl (ex_load1 rfl rfl Tryz.underlying44 rfl ((HM.at_ hc0) 3 _ rfl)) ?_
  refine ox rfl rfl rfl rfl (ex_len (d := kOut) (xs := x0.fOuts) rfl rfl Tryz.underlying44 hp0_1) ?_
  refine ox rfl rfl rfl rfl (ex_lss rfl rfl rfl) ?_
  refine ops_nil (at_then ?_)
  refine run_cond (b := (decide (a2815 < (x0.fOuts.length : Int)))) rfl (fun hb2840 => ?_) (fun hb2840 => ?_)
  ·replace ho2792 := cond_t hb2840 ho2792
   refine run_skip ?_
   refine at_then ?_
   refine run_seq ?_
   refine run_block ?_
   refine run_seq ?_
   refine run_seq ?_
   obtain ⟨e2848, ho2792⟩ := chk_some ho2792
   obtain ⟨t2852, h2853, ho2792⟩ := bind_some ho2792
   refine run_region rfl ?_
   refine ox rfl rfl rfl rfl (ex_move rfl rfl) ?_
   refine ox rfl rfl rfl rfl (ex_nilCheck rfl rfl) ?_
   refine ox rfl rfl rfl rfl (ex_fieldAddr (off' := f0 + 3) rfl rfl Tryz.underlying46 rfl tsz44 rfl) ?_
   refine ox rfl rfl rfl rfl (ex_load1 rfl rfl Tryz.underlying44 rfl ((HM.at_ hc0) 3 _ rfl)) ?_
   refine ox rfl rfl rfl rfl (ex_move rfl rfl) ?_
   obtain ⟨kv2850, hc2849, hk2851⟩ : ∃ u, CellsAt _ (sb p0_1) (so p0_1 + (a2815).toNat * 4) [(.int .i64 ((gt x0.fOuts a2815).fValue)), u, (.int .i64 ((gt x0.fOuts a2815).fRule.fNeed)), (.int .i64 ((gt x0.fOuts a2815).fRule.fAfter))] ∧ RdS kInt _ u ((gt x0.fOuts a2815).fRule.fKeys) := rd_with1 hp0_1 e2848
   refine ox rfl rfl rfl rfl (ex_indexAddr (d := kOut) rfl rfl rfl Tryz.underlying44 tsz84 hp0_1 (idx_lo e2848) (idx_hi e2848)) ?_
   refine ox rfl rfl rfl rfl (ex_fieldAddr (off' := so p0_1 + (a2815).toNat * 4) rfl rfl Tryz.underlying84 rfl tsz2 rfl) ?_
   refine ox rfl rfl rfl rfl (ex_load1 rfl rfl Tryz.underlying2 rfl ((HM.at_ hc2849) 0 _ rfl)) ?_
   refine od rfl rfl rfl rfl (does_callk rfl callok45 rfl (spec_l1In.calls (x0 := (gt x0.fOuts a2815).fValue) (x1 := 1) (x2 := 1000000) h2853)) ?_
   rintro _ w2854 ⟨rfl, hn⟩
   replace HM : Mem w [] w2854 [] := HM.call hn
   refine ox rfl rfl rfl rfl (ex_not rfl rfl) ?_
   refine ops_nil (at_then ?_)
   refine run_cond (b := !t2852) rfl (fun hb2855 => ?_) (fun hb2855 => ?_)
   ·replace ho2792 := cond_t hb2855 ho2792
    refine run_seq ?_
    refine run_region rfl ?_
    refine ox rfl rfl rfl rfl (ex_assign rfl rfl) ?_
    refine ops_nil (at_then ?_)
    refine run_ret ?_
    refine at_then_ret ?_
    refine at_block_ret ?_
    refine at_then_ret ?_
    refine at_then_ret ?_
    refine at_block_ret ?_
    refine at_then_ret ?_
    have hR := Option.some.inj ho2792
    subst hR
    have hT := thn_inl H
    have hR := Option.some.inj hT
    subst hR
    exact at_ret1 rfl rfl ⟨_, rfl, rfl, HM⟩
   ·replace ho2792 := cond_f hb2855 ho2792
    refine run_skip ?_
    refine at_then ?_
    refine run_seq ?_
    obtain ⟨e2856, ho2792⟩ := chk_some ho2792
    obtain ⟨t2860, h2861, ho2792⟩ := bind_some ho2792
    refine run_region rfl ?_
    refine ox rfl rfl rfl rfl (ex_move rfl rfl) ?_
    refine ox rfl rfl rfl rfl (ex_nilCheck rfl rfl) ?_
    refine ox rfl rfl rfl rfl (ex_fieldAddr (off' := f0 + 3) rfl rfl Tryz.underlying46 rfl tsz44 rfl) ?_
    refine ox rfl rfl rfl rfl (ex_load1 rfl rfl Tryz.underlying44 rfl ((HM.at_ hc0) 3 _ rfl)) ?_
    refine ox rfl rfl rfl rfl (ex_move rfl rfl) ?_
    obtain ⟨kv2858, hc2857, hk2859⟩ : ∃ u, CellsAt _ (sb p0_1) (so p0_1 + (a2815).toNat * 4) [(.int .i64 ((gt x0.fOuts a2815).fValue)), u, (.int .i64 ((gt x0.fOuts a2815).fRule.fNeed)), (.int .i64 ((gt x0.fOuts a2815).fRule.fAfter))] ∧ RdS kInt _ u ((gt x0.fOuts a2815).fRule.fKeys) := rd_with1 hp0_1 e2856
    refine ox rfl rfl rfl rfl (ex_indexAddr (d := kOut) rfl rfl rfl Tryz.underlying44 tsz84 hp0_1 (idx_lo e2856) (idx_hi e2856)) ?_
    refine ox rfl rfl rfl rfl (ex_fieldAddr (off' := so p0_1 + (a2815).toNat * 4 + 1) rfl rfl Tryz.underlying84 rfl tsz82 rfl) ?_
    refine od rfl rfl rfl rfl (does_callk rfl callok85 rfl (spec_l2Fault.calls (x0 := (gt x0.fOuts a2815).fRule) (CellsAt.sub (HM.at_ hc2857) 1 3 rfl) (HM.rd hk2859) h2861)) ?_
    rintro _ w2862 ⟨rfl, hn⟩
    replace HM : Mem w [] w2862 [] := HM.call hn
    refine ox rfl rfl rfl rfl (ex_assign rfl rfl) ?_
    refine ops_nil (at_then (run_seq ?_))
    refine run_region rfl ?_
    refine ox rfl rfl rfl rfl (ex_move rfl rfl) ?_
    refine ox rfl rfl rfl rfl (ex_neq rfl rfl rfl) ?_
    refine ops_nil (at_then ?_)
    refine run_cond (b := (t2860 != 0)) rfl (fun hb2863 => ?_) (fun hb2863 => ?_)
    ·replace ho2792 := cond_t hb2863 ho2792
     refine run_seq ?_
     refine run_region rfl ?_
     refine ox rfl rfl rfl rfl (ex_move rfl rfl) ?_
     refine ox rfl rfl rfl rfl (ex_assign rfl rfl) ?_
     refine ops_nil (at_then ?_)
     refine run_ret ?_
     refine at_block_ret ?_
     refine at_then_ret ?_
     refine at_then_ret ?_
     refine at_block_ret ?_
     refine at_then_ret ?_
     have hR := Option.some.inj ho2792
     subst hR
     have hT := thn_inl H
     have hR := Option.some.inj hT
     subst hR
     exact at_ret1 rfl rfl ⟨_, rfl, rfl, HM⟩
    ·replace ho2792 := cond_f hb2863 ho2792
     refine run_skip ?_
     refine at_block ?_
     refine at_then ?_
     refine run_region rfl ?_
     refine ox rfl rfl rfl rfl (ex_move rfl rfl) ?_
     refine ox rfl rfl rfl rfl (ex_add rfl rfl rfl) ?_
     refine ox rfl rfl rfl rfl (ex_assign rfl rfl) ?_
     refine ops_nil ?_
     exact at_again k2838 (ρ1 := [(0, .pointer (some ⟨b0, f0, none⟩)), (3, .int .i64 (wrap64 (a2815 + 1)))]) (Nat.lt_succ_self _) ⟨_, ho2792, rfl, HM⟩ (Sub.cons rfl (Sub.cons rfl Sub.nil))
  ·replace ho2792 := cond_f hb2840 ho2792
   refine run_exit ?_
   refine at_then_exit ?_
   refine at_then_exit ?_
   refine at_block_exit ?_
   exact at_mid (ρ' := [(0, .pointer (some ⟨b0, f0, none⟩))]) ⟨(Option.some.inj ho2792), rfl, HM⟩ (Sub.cons rfl Sub.nil)
 ·rintro _ w2864 ⟨rfl, rfl, HM⟩
  replace H := (thn_inr H)
  refine run_seq ?_
  refine run_seq ?_
  obtain ⟨e2865, H⟩ := chk_some H
  refine run_meet (fun ρ_ w_ => ρ_ = [(49, .bool ((x0.fKind == 1) && (decide (((gt x0.fOuts (0 : Int)).fValue) < 100))))] ∧ Mem w [] w_ []) ?_ ?_
  ·skip
   refine run_region rfl ?_
   refine ox rfl rfl rfl rfl (ex_move rfl rfl) ?_
   refine ox rfl rfl rfl rfl (ex_nilCheck rfl rfl) ?_
   refine ox rfl rfl rfl rfl (ex_fieldAddr (off' := f0) rfl rfl Tryz.underlying46 rfl tsz2 rfl) ?_
   refine ox rfl rfl rfl rfl (ex_load1 rfl rfl Tryz.underlying2 rfl ((HM.at_ hc0) 0 _ rfl)) ?_
   refine ox rfl rfl rfl rfl (ex_eql rfl rfl rfl) ?_
   refine ox rfl rfl rfl rfl (ex_move rfl rfl) ?_
   refine bool_cases (x0.fKind == 1) (fun hg2869 => ?_) (fun hg2869 => ?_)
   ·skip
    refine ops_ex rfl (guard_on rfl rfl rfl hg2869) rfl rfl (ex_move rfl rfl) ?_
    refine ops_ex rfl (guard_on rfl rfl rfl hg2869) rfl rfl (ex_nilCheck rfl rfl) ?_
    refine ops_ex rfl (guard_on rfl rfl rfl hg2869) rfl rfl (ex_fieldAddr (off' := f0 + 3) rfl rfl Tryz.underlying46 rfl tsz44 rfl) ?_
    refine ops_ex rfl (guard_on rfl rfl rfl hg2869) rfl rfl (ex_load1 rfl rfl Tryz.underlying44 rfl ((HM.at_ hc0) 3 _ rfl)) ?_
    obtain ⟨kv2867, hc2866, hk2868⟩ : ∃ u, CellsAt _ (sb p0_1) (so p0_1 + ((0 : Int)).toNat * 4) [(.int .i64 ((gt x0.fOuts (0 : Int)).fValue)), u, (.int .i64 ((gt x0.fOuts (0 : Int)).fRule.fNeed)), (.int .i64 ((gt x0.fOuts (0 : Int)).fRule.fAfter))] ∧ RdS kInt _ u ((gt x0.fOuts (0 : Int)).fRule.fKeys) := rd_with1 hp0_1 (or_t e2865 hg2869)
    refine ops_ex rfl (guard_on rfl rfl rfl hg2869) rfl rfl (ex_indexAddr (d := kOut) rfl rfl rfl Tryz.underlying44 tsz84 hp0_1 (idx_lo (or_t e2865 hg2869)) (idx_hi (or_t e2865 hg2869))) ?_
    refine ops_ex rfl (guard_on rfl rfl rfl hg2869) rfl rfl (ex_fieldAddr (off' := so p0_1 + ((0 : Int)).toNat * 4) rfl rfl Tryz.underlying84 rfl tsz2 rfl) ?_
    refine ops_ex rfl (guard_on rfl rfl rfl hg2869) rfl rfl (ex_load1 rfl rfl Tryz.underlying2 rfl ((HM.at_ hc2866) 0 _ rfl)) ?_
    refine ops_ex rfl (guard_on rfl rfl rfl hg2869) rfl rfl (ex_lss rfl rfl rfl) ?_
    refine ops_ex (v := .bool ((x0.fKind == 1) && (decide (((gt x0.fOuts (0 : Int)).fValue) < 100)))) rfl (guard_none rfl) rfl rfl (ex_pand_t rfl rfl hg2869 rfl) ?_
    refine ops_nil ?_
    exact at_meet [(49, .bool ((x0.fKind == 1) && (decide (((gt x0.fOuts (0 : Int)).fValue) < 100))))] ⟨rfl, HM⟩ (Sub.cons rfl Sub.nil)
   ·skip
    refine ops_off rfl (guard_off rfl rfl rfl hg2869) rfl rfl ?_
    refine ops_off rfl (guard_off rfl rfl rfl hg2869) rfl rfl ?_
    refine ops_off rfl (guard_off rfl rfl rfl hg2869) rfl rfl ?_
    refine ops_off rfl (guard_off rfl rfl rfl hg2869) rfl rfl ?_
    refine ops_off rfl (guard_off rfl rfl rfl hg2869) rfl rfl ?_
    refine ops_off rfl (guard_off rfl rfl rfl hg2869) rfl rfl ?_
    refine ops_off rfl (guard_off rfl rfl rfl hg2869) rfl rfl ?_
    refine ops_off rfl (guard_off rfl rfl rfl hg2869) rfl rfl ?_
    have hg2870 : ((x0.fKind == 1) && (decide (((gt x0.fOuts (0 : Int)).fValue) < 100))) = false := by simp only [hg2869, Bool.and_true, Bool.true_and, Bool.and_false, Bool.false_and, Bool.or_true, Bool.true_or, Bool.or_false, Bool.false_or, Bool.not_true, Bool.not_false, Bool.not_not]
    refine ops_ex (v := .bool ((x0.fKind == 1) && (decide (((gt x0.fOuts (0 : Int)).fValue) < 100)))) rfl (guard_none rfl) rfl rfl (ex_pand_f rfl rfl hg2869) ?_
    refine ops_nil ?_
    exact at_meet [(49, .bool ((x0.fKind == 1) && (decide (((gt x0.fOuts (0 : Int)).fValue) < 100))))] ⟨rfl, HM⟩ (Sub.cons rfl Sub.nil)
  ·rintro _ w2871 ⟨rfl, HM⟩
   refine at_then ?_
   refine run_cond (b := ((x0.fKind == 1) && (decide (((gt x0.fOuts (0 : Int)).fValue) < 100)))) rfl (fun hb2872 => ?_) (fun hb2872 => ?_)
   ·replace H := cond_t hb2872 H
    refine run_seq ?_
    refine run_region rfl ?_
    refine ox rfl rfl rfl rfl (ex_assign rfl rfl) ?_
    refine ops_nil (at_then ?_)
    refine run_ret ?_
    refine at_then_ret ?_
    have hR := Option.some.inj H
    subst hR
    exact at_ret1 rfl rfl ⟨_, rfl, rfl, HM⟩
   ·replace H := cond_f hb2872 H
    refine run_skip ?_
    refine at_then ?_
    refine run_seq ?_
    refine run_region rfl ?_
    refine ox rfl rfl rfl rfl (ex_assign rfl rfl) ?_
    refine ops_nil (at_then ?_)
    refine run_ret ?_
    have hR := Option.some.inj H
    subst hR
    exact at_ret1 rfl rfl ⟨_, rfl, rfl, HM⟩

def spec_l3Fault.l0 (x0 : Tx) : Nat → Int → Option (Int ⊕ Unit)
 | 0, _ => none
 | k + 1, a2993 => (bif (decide (a2993 < (x0.fIns.length : Int))) then (chk (idxOk a2993 x0.fIns.length) ((spec_l3Ref.f k (gt x0.fIns a2993)).bind fun t3024 => (bif !t3024 then some (.inl 3) else (chk (cutOk a2993 x0.fIns.length) (chk (idxOk a2993 x0.fIns.length) ((spec_l3Among.f k (x0.fIns.take (a2993).toNat) (gt x0.fIns a2993)).bind fun t3034 => (bif t3034 then some (.inl 7) else spec_l3Fault.l0 x0 k (wrap64 (a2993 + 1))))))))) else some (.inr ()))
theorem spec_l3Fault.l0_z (x0 : Tx) (a2993 : Int) : spec_l3Fault.l0 x0 0 a2993 = none := rfl
theorem spec_l3Fault.l0_s (x0 : Tx) (k : Nat) (a2993 : Int) : spec_l3Fault.l0 x0 (k + 1) a2993 = (bif (decide (a2993 < (x0.fIns.length : Int))) then (chk (idxOk a2993 x0.fIns.length) ((spec_l3Ref.f k (gt x0.fIns a2993)).bind fun t3024 => (bif !t3024 then some (.inl 3) else (chk (cutOk a2993 x0.fIns.length) (chk (idxOk a2993 x0.fIns.length) ((spec_l3Among.f k (x0.fIns.take (a2993).toNat) (gt x0.fIns a2993)).bind fun t3034 => (bif t3034 then some (.inl 7) else spec_l3Fault.l0 x0 k (wrap64 (a2993 + 1))))))))) else some (.inr ())) := rfl
def spec_l3Fault.f (k : Nat) (x0 : Tx) : Option Int := ((spec_l1In.f k x0.fKind 0 2).bind fun t2878 => (bif ((!t2878) || ((x0.fKind == 0) != (x0.fMember == 0))) then some 1 else ((bif (x0.fKind != 0) then spec_l1Key.f k x0.fMember else some default).bind fun t2888 => (bif ((x0.fKind != 0) && (!t2888)) then some 3 else ((spec_l1In.f k (x0.fIns.length : Int) 1 4).bind fun t2900 => ((bif (!(!t2900)) then spec_l1In.f k (x0.fOuts.length : Int) 1 4 else some default).bind fun t2902 => (bif ((!t2900) || (!t2902)) then some 2 else ((spec_l3Fault.l0 x0 k 0).bind fun o2971 => thn o2971 (fun r => some r) (fun _ => ((spec_l3Outs.f k x0).bind fun t3039 => some t3039))))))))))
theorem spec_l3Fault.calls {k : Nat} {x0 : Tx} {b0 f0 : Nat} {p0_0 : Value} {p0_1 : Value} {w : World} (hc0 : CellsAt w b0 f0 [.int .i64 x0.fKind, .int .i64 x0.fMember, p0_0, p0_1]) (hp0_0 : RdS kRef w p0_0 x0.fIns) (hp0_1 : RdS kOut w p0_1 x0.fOuts) {r : Int} (H : spec_l3Fault.f k x0 = some r) :
  Calls Tryz.prog 23 ([.pointer (some ⟨b0, f0, none⟩)] : List Value).toArray w (fun e w_ => ∃ v, e = .returned v ∧ v = (.int .i64 r) ∧ Mem w [] w_ []) := by
 have HM := Mem.start w
 refine calls_run (N := 86) Tryz.func23 rfl rfl rfl rfl ?_
 unfold spec_l3Fault.f at H
 refine run_seq ?_
 refine run_region rfl ?_
 refine ox rfl rfl rfl rfl (ex_assign rfl rfl) ?_
 refine ops_nil (at_then (run_seq ?_))
 refine run_seq ?_
 obtain ⟨t2878, h2879, H⟩ := bind_some H
 refine run_meet (fun ρ_ w_ => ρ_ = [(0, .pointer (some ⟨b0, f0, none⟩)), (22, .bool ((!t2878) || ((x0.fKind == 0) != (x0.fMember == 0))))] ∧ Mem w [] w_ []) ?_ ?_
 ·skip
  refine run_drawf (fun w_ => Mem w [] w_ []) [(0, true), (1, true), (2, true), (3, true), (4, false), (5, true), (6, true), (7, true), (8, true), (9, true), (10, true), (11, true), (12, true), (13, true), (14, true), (15, true), (16, true), (17, true), (18, true)] mixed rfl rfl (by kernel_rfl) ?_
  replace HM := HM.grow (fr_drew _)
  have hS := Mem.suf (M := []) HM
  refine dp rfl rfl rfl rfl (ex_move rfl rfl) hS ?_
  refine dp rfl rfl rfl rfl (ex_nilCheck rfl rfl) hS ?_
  refine dp rfl rfl rfl rfl (ex_fieldAddr (off' := f0) rfl rfl Tryz.underlying46 rfl tsz2 rfl) hS ?_
  refine drwp_take rfl (guard_none rfl) rfl rfl (fun w_ hS_ => (ex_load1 rfl rfl Tryz.underlying2 rfl ((hS_.at_ hc0) 0 _ rfl))) hS ?_
  refine drwp_one rfl (guard_none rfl) rfl rfl (does_callk rfl callok45 rfl (spec_l1In.calls (x0 := x0.fKind) (x1 := 0) (x2 := 2) h2879)) ?_
  rintro _ w2880 ⟨rfl, hn⟩
  replace HM : Mem w [] w2880 [] := HM.call hn
  have hS := Mem.suf (M := []) HM
  refine ⟨hS, ?_⟩
  refine dp rfl rfl rfl rfl (ex_not rfl rfl) hS ?_
  refine dp rfl rfl rfl rfl (ex_move rfl rfl) hS ?_
  refine bool_cases (!t2878) (fun hg2881 => ?_) (fun hg2881 => ?_)
  ·skip
   refine drwp_off rfl (guard_off rfl rfl rfl hg2881) rfl rfl hS ?_
   refine drwp_off rfl (guard_off rfl rfl rfl hg2881) rfl rfl hS ?_
   refine drwp_off rfl (guard_off rfl rfl rfl hg2881) rfl rfl hS ?_
   refine drwp_off rfl (guard_off rfl rfl rfl hg2881) rfl rfl hS ?_
   refine drwp_off rfl (guard_off rfl rfl rfl hg2881) rfl rfl hS ?_
   refine drwp_off rfl (guard_off rfl rfl rfl hg2881) rfl rfl hS ?_
   refine drwp_off rfl (guard_off rfl rfl rfl hg2881) rfl rfl hS ?_
   refine drwp_off rfl (guard_off rfl rfl rfl hg2881) rfl rfl hS ?_
   refine drwp_off rfl (guard_off rfl rfl rfl hg2881) rfl rfl hS ?_
   refine drwp_off rfl (guard_off rfl rfl rfl hg2881) rfl rfl hS ?_
   refine drwp_off rfl (guard_off rfl rfl rfl hg2881) rfl rfl hS ?_
   have hg2882 : ((!t2878) || ((x0.fKind == 0) != (x0.fMember == 0))) = true := by simp only [hg2881, Bool.and_true, Bool.true_and, Bool.and_false, Bool.false_and, Bool.or_true, Bool.true_or, Bool.or_false, Bool.false_or, Bool.not_true, Bool.not_false, Bool.not_not]
   refine drwp_take (v := .bool ((!t2878) || ((x0.fKind == 0) != (x0.fMember == 0)))) rfl (guard_none rfl) rfl rfl (fun w_ hS_ => (ex_por_t rfl rfl hg2881)) hS ?_
   refine drwp_done ?_
   exact at_meet [(0, .pointer (some ⟨b0, f0, none⟩)), (22, .bool ((!t2878) || ((x0.fKind == 0) != (x0.fMember == 0))))] ⟨rfl, HM⟩ (Sub.cons rfl (Sub.cons rfl Sub.nil))
  ·skip
   refine drwp_take rfl (guard_on rfl rfl rfl hg2881) rfl rfl (fun w_ hS_ => (ex_move rfl rfl)) hS ?_
   refine drwp_take rfl (guard_on rfl rfl rfl hg2881) rfl rfl (fun w_ hS_ => (ex_nilCheck rfl rfl)) hS ?_
   refine drwp_take rfl (guard_on rfl rfl rfl hg2881) rfl rfl (fun w_ hS_ => (ex_fieldAddr (off' := f0) rfl rfl Tryz.underlying46 rfl tsz2 rfl)) hS ?_
   refine drwp_take rfl (guard_on rfl rfl rfl hg2881) rfl rfl (fun w_ hS_ => (ex_load1 rfl rfl Tryz.underlying2 rfl ((hS_.at_ hc0) 0 _ rfl))) hS ?_
   refine drwp_take rfl (guard_on rfl rfl rfl hg2881) rfl rfl (fun w_ hS_ => (ex_eql rfl rfl rfl)) hS ?_
   refine drwp_take rfl (guard_on rfl rfl rfl hg2881) rfl rfl (fun w_ hS_ => (ex_move rfl rfl)) hS ?_
   refine drwp_take rfl (guard_on rfl rfl rfl hg2881) rfl rfl (fun w_ hS_ => (ex_nilCheck rfl rfl)) hS ?_
   refine drwp_take rfl (guard_on rfl rfl rfl hg2881) rfl rfl (fun w_ hS_ => (ex_fieldAddr (off' := f0 + 1) rfl rfl Tryz.underlying46 rfl tsz2 rfl)) hS ?_
   refine drwp_take rfl (guard_on rfl rfl rfl hg2881) rfl rfl (fun w_ hS_ => (ex_load1 rfl rfl Tryz.underlying2 rfl ((hS_.at_ hc0) 1 _ rfl))) hS ?_
   refine drwp_take rfl (guard_on rfl rfl rfl hg2881) rfl rfl (fun w_ hS_ => (ex_eql rfl rfl rfl)) hS ?_
   refine drwp_take rfl (guard_on rfl rfl rfl hg2881) rfl rfl (fun w_ hS_ => (ex_bneq rfl rfl rfl Tryz.underlying4)) hS ?_
   refine drwp_take (v := .bool ((!t2878) || ((x0.fKind == 0) != (x0.fMember == 0)))) rfl (guard_none rfl) rfl rfl (fun w_ hS_ => (ex_por_f rfl rfl hg2881 rfl)) hS ?_
   refine drwp_done ?_
   exact at_meet [(0, .pointer (some ⟨b0, f0, none⟩)), (22, .bool ((!t2878) || ((x0.fKind == 0) != (x0.fMember == 0))))] ⟨rfl, HM⟩ (Sub.cons rfl (Sub.cons rfl Sub.nil))
 ·rintro _ w2883 ⟨rfl, HM⟩
  refine at_then ?_
  refine run_cond (b := ((!t2878) || ((x0.fKind == 0) != (x0.fMember == 0)))) rfl (fun hb2884 => ?_) (fun hb2884 => ?_)
  ·replace H := cond_t hb2884 H
   refine run_seq ?_
   refine run_region rfl ?_
   refine ox rfl rfl rfl rfl (ex_assign rfl rfl) ?_
   refine ops_nil (at_then ?_)
   refine run_ret ?_
   refine at_then_ret ?_
   have hR := Option.some.inj H
   subst hR
   exact at_ret1 rfl rfl ⟨_, rfl, rfl, HM⟩
  ·replace H := cond_f hb2884 H
   refine run_skip ?_
   refine at_then ?_
   refine run_seq ?_
   refine run_seq ?_
   obtain ⟨t2888, h2889, H⟩ := bind_some H
   refine run_meet (fun ρ_ w_ => ρ_ = [(0, .pointer (some ⟨b0, f0, none⟩)), (35, .bool ((x0.fKind != 0) && (!t2888)))] ∧ Mem w [] w_ []) ?_ ?_
   ·skip
    refine run_region rfl ?_
    refine ox rfl rfl rfl rfl (ex_move rfl rfl) ?_
    refine ox rfl rfl rfl rfl (ex_nilCheck rfl rfl) ?_
    refine ox rfl rfl rfl rfl (ex_fieldAddr (off' := f0) rfl rfl Tryz.underlying46 rfl tsz2 rfl) ?_
    refine ox rfl rfl rfl rfl (ex_load1 rfl rfl Tryz.underlying2 rfl ((HM.at_ hc0) 0 _ rfl)) ?_
    refine ox rfl rfl rfl rfl (ex_neq rfl rfl rfl) ?_
    refine ox rfl rfl rfl rfl (ex_move rfl rfl) ?_
    refine bool_cases (x0.fKind != 0) (fun hg2890 => ?_) (fun hg2890 => ?_)
    ·skip
     refine ops_ex rfl (guard_on rfl rfl rfl hg2890) rfl rfl (ex_move rfl rfl) ?_
     refine ops_ex rfl (guard_on rfl rfl rfl hg2890) rfl rfl (ex_nilCheck rfl rfl) ?_
     refine ops_ex rfl (guard_on rfl rfl rfl hg2890) rfl rfl (ex_fieldAddr (off' := f0 + 1) rfl rfl Tryz.underlying46 rfl tsz2 rfl) ?_
     refine ops_ex rfl (guard_on rfl rfl rfl hg2890) rfl rfl (ex_load1 rfl rfl Tryz.underlying2 rfl ((HM.at_ hc0) 1 _ rfl)) ?_
     refine ops_does rfl (guard_on rfl rfl rfl hg2890) rfl rfl (does_callk rfl callok44 rfl (spec_l1Key.calls (x0 := x0.fMember) (cond_t hg2890 h2889))) ?_
     rintro _ w2891 ⟨rfl, hn⟩
     replace HM : Mem w [] w2891 [] := HM.call hn
     refine ops_ex rfl (guard_on rfl rfl rfl hg2890) rfl rfl (ex_not rfl rfl) ?_
     refine ops_ex (v := .bool ((x0.fKind != 0) && (!t2888))) rfl (guard_none rfl) rfl rfl (ex_pand_t rfl rfl hg2890 rfl) ?_
     refine ops_nil ?_
     exact at_meet [(0, .pointer (some ⟨b0, f0, none⟩)), (35, .bool ((x0.fKind != 0) && (!t2888)))] ⟨rfl, HM⟩ (Sub.cons rfl (Sub.cons rfl Sub.nil))
    ·skip
     refine ops_off rfl (guard_off rfl rfl rfl hg2890) rfl rfl ?_
     refine ops_off rfl (guard_off rfl rfl rfl hg2890) rfl rfl ?_
     refine ops_off rfl (guard_off rfl rfl rfl hg2890) rfl rfl ?_
     refine ops_off rfl (guard_off rfl rfl rfl hg2890) rfl rfl ?_
     refine ops_off rfl (guard_off rfl rfl rfl hg2890) rfl rfl ?_
     refine ops_off rfl (guard_off rfl rfl rfl hg2890) rfl rfl ?_
     have hg2892 : ((x0.fKind != 0) && (!t2888)) = false := by simp only [hg2890, Bool.and_true, Bool.true_and, Bool.and_false, Bool.false_and, Bool.or_true, Bool.true_or, Bool.or_false, Bool.false_or, Bool.not_true, Bool.not_false, Bool.not_not]
     refine ops_ex (v := .bool ((x0.fKind != 0) && (!t2888))) rfl (guard_none rfl) rfl rfl (ex_pand_f rfl rfl hg2890) ?_
     refine ops_nil ?_
     exact at_meet [(0, .pointer (some ⟨b0, f0, none⟩)), (35, .bool ((x0.fKind != 0) && (!t2888)))] ⟨rfl, HM⟩ (Sub.cons rfl (Sub.cons rfl Sub.nil))
   ·rintro _ w2893 ⟨rfl, HM⟩
    refine at_then ?_
    refine run_cond (b := ((x0.fKind != 0) && (!t2888))) rfl (fun hb2894 => ?_) (fun hb2894 => ?_)
    ·replace H := cond_t hb2894 H
     refine run_seq ?_
     refine run_region rfl ?_
     refine ox rfl rfl rfl rfl (ex_assign rfl rfl) ?_
     refine ops_nil (at_then ?_)
     refine run_ret ?_
     refine at_then_ret ?_
     have hR := Option.some.inj H
     subst hR
     exact at_ret1 rfl rfl ⟨_, rfl, rfl, HM⟩
    ·replace H := cond_f hb2894 H
     refine run_skip ?_
     refine at_then ?_
     refine run_seq ?_
     refine run_seq ?_
     obtain ⟨t2900, h2901, H⟩ := bind_some H
     obtain ⟨t2902, h2903, H⟩ := bind_some H
     refine run_meet (fun ρ_ w_ => ρ_ = [(0, .pointer (some ⟨b0, f0, none⟩)), (51, .bool ((!t2900) || (!t2902)))] ∧ Mem w [] w_ []) ?_ ?_
     ·skip
      refine run_region rfl ?_
      refine ox rfl rfl rfl rfl (ex_move rfl rfl) ?_
      refine ox rfl rfl rfl rfl (ex_nilCheck rfl rfl) ?_
      refine ox rfl rfl rfl rfl (ex_fieldAddr (off' := f0 + 2) rfl rfl Tryz.underlying46 rfl tsz43 rfl) ?_
      refine ox rfl rfl rfl rfl (ex_load1 rfl rfl Tryz.underlying43 rfl ((HM.at_ hc0) 2 _ rfl)) ?_
      refine ox rfl rfl rfl rfl (ex_len (d := kRef) (xs := x0.fIns) rfl rfl Tryz.underlying43 hp0_0) ?_
      refine od rfl rfl rfl rfl (does_callk rfl callok45 rfl (spec_l1In.calls (x0 := (x0.fIns.length : Int)) (x1 := 1) (x2 := 4) h2901)) ?_
      rintro _ w2904 ⟨rfl, hn⟩
      replace HM : Mem w [] w2904 [] := HM.call hn
      refine ox rfl rfl rfl rfl (ex_not rfl rfl) ?_
      refine ox rfl rfl rfl rfl (ex_move rfl rfl) ?_
      refine bool_cases (!t2900) (fun hg2905 => ?_) (fun hg2905 => ?_)
      ·skip
       refine ops_off rfl (guard_off rfl rfl rfl hg2905) rfl rfl ?_
       refine ops_off rfl (guard_off rfl rfl rfl hg2905) rfl rfl ?_
       refine ops_off rfl (guard_off rfl rfl rfl hg2905) rfl rfl ?_
       refine ops_off rfl (guard_off rfl rfl rfl hg2905) rfl rfl ?_
       refine ops_off rfl (guard_off rfl rfl rfl hg2905) rfl rfl ?_
       refine ops_off rfl (guard_off rfl rfl rfl hg2905) rfl rfl ?_
       refine ops_off rfl (guard_off rfl rfl rfl hg2905) rfl rfl ?_
       have hg2906 : ((!t2900) || (!t2902)) = true := by simp only [hg2905, Bool.and_true, Bool.true_and, Bool.and_false, Bool.false_and, Bool.or_true, Bool.true_or, Bool.or_false, Bool.false_or, Bool.not_true, Bool.not_false, Bool.not_not]
       refine ops_ex (v := .bool ((!t2900) || (!t2902))) rfl (guard_none rfl) rfl rfl (ex_por_t rfl rfl hg2905) ?_
       refine ops_nil ?_
       exact at_meet [(0, .pointer (some ⟨b0, f0, none⟩)), (51, .bool ((!t2900) || (!t2902)))] ⟨rfl, HM⟩ (Sub.cons rfl (Sub.cons rfl Sub.nil))
      ·skip
       refine ops_ex rfl (guard_on rfl rfl rfl hg2905) rfl rfl (ex_move rfl rfl) ?_
       refine ops_ex rfl (guard_on rfl rfl rfl hg2905) rfl rfl (ex_nilCheck rfl rfl) ?_
       refine ops_ex rfl (guard_on rfl rfl rfl hg2905) rfl rfl (ex_fieldAddr (off' := f0 + 3) rfl rfl Tryz.underlying46 rfl tsz44 rfl) ?_
       refine ops_ex rfl (guard_on rfl rfl rfl hg2905) rfl rfl (ex_load1 rfl rfl Tryz.underlying44 rfl ((HM.at_ hc0) 3 _ rfl)) ?_
       refine ops_ex rfl (guard_on rfl rfl rfl hg2905) rfl rfl (ex_len (d := kOut) (xs := x0.fOuts) rfl rfl Tryz.underlying44 hp0_1) ?_
       refine ops_does rfl (guard_on rfl rfl rfl hg2905) rfl rfl (does_callk rfl callok45 rfl (spec_l1In.calls (x0 := (x0.fOuts.length : Int)) (x1 := 1) (x2 := 4) (cond_t (not_mk hg2905) h2903))) ?_
       rintro _ w2907 ⟨rfl, hn⟩
       replace HM : Mem w [] w2907 [] := HM.call hn
       refine ops_ex rfl (guard_on rfl rfl rfl hg2905) rfl rfl (ex_not rfl rfl) ?_
       refine ops_ex (v := .bool ((!t2900) || (!t2902))) rfl (guard_none rfl) rfl rfl (ex_por_f rfl rfl hg2905 rfl) ?_
       refine ops_nil ?_
       exact at_meet [(0, .pointer (some ⟨b0, f0, none⟩)), (51, .bool ((!t2900) || (!t2902)))] ⟨rfl, HM⟩ (Sub.cons rfl (Sub.cons rfl Sub.nil))
     ·rintro _ w2908 ⟨rfl, HM⟩
      refine at_then ?_
      refine run_cond (b := ((!t2900) || (!t2902))) rfl (fun hb2909 => ?_) (fun hb2909 => ?_)
      ·replace H := cond_t hb2909 H
       refine run_seq ?_
       refine run_region rfl ?_
       refine ox rfl rfl rfl rfl (ex_assign rfl rfl) ?_
       refine ops_nil (at_then ?_)
       refine run_ret ?_
       refine at_then_ret ?_
       have hR := Option.some.inj H
       subst hR
       exact at_ret1 rfl rfl ⟨_, rfl, rfl, HM⟩
      ·replace H := cond_f hb2909 H
       refine run_skip ?_
       refine at_then ?_
       obtain ⟨o2971, ho2972, H⟩ := bind_some H
       refine run_mid (fun ρ_ w_ => Sum.inr () = o2971 ∧ ρ_ = [(0, .pointer (some ⟨b0, f0, none⟩))] ∧ Mem w [] w_ []) ?_ ?_
       ·skip
        refine run_seq ?_
        refine run_region rfl ?_
        refine ox rfl rfl rfl rfl (ex_assign rfl rfl) ?_
        refine ops_nil (at_then ?_)
        refine run_block ?_
        refine run_loop (fun k_ ρ_ w_ => ∃ a2993 : Int, spec_l3Fault.l0 x0 k_ a2993 = some o2971 ∧ ρ_ = [(0, .pointer (some ⟨b0, f0, none⟩)), (3, .int .i64 a2993)] ∧ Mem w [] w_ []) k (ρ1 := [(0, .pointer (some ⟨b0, f0, none⟩)), (3, .int .i64 0)]) ⟨_, ho2972, rfl, HM⟩ (Sub.cons rfl (Sub.cons rfl Sub.nil)) ?_
        clear HM ho2972
        rintro k3014 _ w3015 ⟨a2993, ho2972, rfl, HM⟩
        obtain _ | k3014 := k3014
        ·exact nomatch ((spec_l3Fault.l0_z x0 a2993).symm.trans ho2972)
        replace ho2972 := (spec_l3Fault.l0_s x0 k3014 a2993).symm.trans ho2972
        refine run_seq ?_
        refine run_seq ?_
        refine run_region rfl ?_
        refine ox rfl rfl rfl rfl (ex_move rfl rfl) ?_
        refine ox rfl rfl rfl rfl (ex_move rfl rfl) ?_
        refine ox rfl rfl rfl rfl (ex_nilCheck rfl rfl) ?_
        refine ox rfl rfl rfl rfl (ex_fieldAddr (off' := f0 + 2) rfl rfl Tryz.underlying46 rfl tsz43 rfl) ?_
        refine ox rfl rfl rfl rfl (ex_load1 rfl rfl Tryz.underlying43 rfl ((HM.at_ hc0) 2 _ rfl)) ?_
        refine ox rfl rfl rfl rfl (ex_len (d := kRef) (xs := x0.fIns) rfl rfl Tryz.underlying43 hp0_0) ?_
        refine ox rfl rfl rfl rfl (ex_lss rfl rfl rfl) ?_
        refine ops_nil (at_then ?_)
        refine run_cond (b := (decide (a2993 < (x0.fIns.length : Int)))) rfl (fun hb3016 => ?_) (fun hb3016 => ?_)
        ·replace ho2972 := cond_t hb3016 ho2972
         refine run_skip ?_
         refine at_then ?_
         refine run_seq ?_
         refine run_block ?_
         refine run_seq ?_
         refine run_seq ?_
         obtain ⟨e3022, ho2972⟩ := chk_some ho2972
         obtain ⟨t3024, h3025, ho2972⟩ := bind_some ho2972
         refine run_region rfl ?_
         refine ox rfl rfl rfl rfl (ex_move rfl rfl) ?_
         refine ox rfl rfl rfl rfl (ex_nilCheck rfl rfl) ?_
         refine ox rfl rfl rfl rfl (ex_fieldAddr (off' := f0 + 2) rfl rfl Tryz.underlying46 rfl tsz43 rfl) ?_
         refine ox rfl rfl rfl rfl (ex_load1 rfl rfl Tryz.underlying43 rfl ((HM.at_ hc0) 2 _ rfl)) ?_
         refine ox rfl rfl rfl rfl (ex_move rfl rfl) ?_
         have hc3023 : CellsAt _ (sb p0_0) (so p0_0 + (a2993).toNat * 2) [(.int .i64 ((gt x0.fIns a2993).fTx)), (.int .i64 ((gt x0.fIns a2993).fAt))] := rd_plain hp0_0 e3022
         refine ox rfl rfl rfl rfl (ex_indexAddr (d := kRef) rfl rfl rfl Tryz.underlying43 tsz81 hp0_0 (idx_lo e3022) (idx_hi e3022)) ?_
         refine ox rfl rfl rfl rfl (ex_loadN (cs := [(.int .i64 ((gt x0.fIns a2993).fTx)), (.int .i64 ((gt x0.fIns a2993).fAt))]) rfl rfl Tryz.underlying81 rfl tsz81 rfl ((HM.at_ hc3023).sub 0 2 rfl)) ?_
         refine od rfl rfl rfl rfl (does_callk rfl callok47 rfl (spec_l3Ref.calls (x0 := (gt x0.fIns a2993)) h3025)) ?_
         rintro _ w3026 ⟨rfl, hn⟩
         replace HM : Mem w [] w3026 [] := HM.call hn
         refine ox rfl rfl rfl rfl (ex_not rfl rfl) ?_
         refine ops_nil (at_then ?_)
         refine run_cond (b := !t3024) rfl (fun hb3027 => ?_) (fun hb3027 => ?_)
         ·replace ho2972 := cond_t hb3027 ho2972
          refine run_seq ?_
          refine run_region rfl ?_
          refine ox rfl rfl rfl rfl (ex_assign rfl rfl) ?_
          refine ops_nil (at_then ?_)
          refine run_ret ?_
          refine at_then_ret ?_
          refine at_block_ret ?_
          refine at_then_ret ?_
          refine at_then_ret ?_
          refine at_block_ret ?_
          refine at_then_ret ?_
          have hR := Option.some.inj ho2972
          subst hR
          have hT := thn_inl H
          have hR := Option.some.inj hT
          subst hR
          exact at_ret1 rfl rfl ⟨_, rfl, rfl, HM⟩
         ·replace ho2972 := cond_f hb3027 ho2972
          refine run_skip ?_
          refine at_then ?_
          refine run_seq ?_
          obtain ⟨e3028, ho2972⟩ := chk_some ho2972
          obtain ⟨e3032, ho2972⟩ := chk_some ho2972
          obtain ⟨t3034, h3035, ho2972⟩ := bind_some ho2972
          refine run_drawf (fun w_ => Mem w [] w_ []) [(0, true), (1, true), (2, true), (3, true), (4, true), (5, true), (6, true), (7, true), (8, true), (9, true), (10, true), (11, true), (12, true), (13, false)] mixed rfl rfl (by kernel_rfl) ?_
          replace HM := HM.grow (fr_drew _)
          have hS := Mem.suf (M := []) HM
          refine dp rfl rfl rfl rfl (ex_move rfl rfl) hS ?_
          refine dp rfl rfl rfl rfl (ex_nilCheck rfl rfl) hS ?_
          refine dp rfl rfl rfl rfl (ex_fieldAddr (off' := f0 + 2) rfl rfl Tryz.underlying46 rfl tsz43 rfl) hS ?_
          refine drwp_take rfl (guard_none rfl) rfl rfl (fun w_ hS_ => (ex_load1 rfl rfl Tryz.underlying43 rfl ((hS_.at_ hc0) 2 _ rfl))) hS ?_
          refine dp rfl rfl rfl rfl (ex_move rfl rfl) hS ?_
          refine drwp_takeE rfl (guard_none rfl) rfl rfl (ex_cutH kRef rfl rfl rfl Tryz.underlying43 tsz81 hp0_0 e3028) hS ?_
          rintro u3029 hr3031
          refine dp rfl rfl rfl rfl (ex_move rfl rfl) hS ?_
          refine dp rfl rfl rfl rfl (ex_nilCheck rfl rfl) hS ?_
          refine dp rfl rfl rfl rfl (ex_fieldAddr (off' := f0 + 2) rfl rfl Tryz.underlying46 rfl tsz43 rfl) hS ?_
          refine drwp_take rfl (guard_none rfl) rfl rfl (fun w_ hS_ => (ex_load1 rfl rfl Tryz.underlying43 rfl ((hS_.at_ hc0) 2 _ rfl))) hS ?_
          refine dp rfl rfl rfl rfl (ex_move rfl rfl) hS ?_
          have hc3033 : CellsAt _ (sb p0_0) (so p0_0 + (a2993).toNat * 2) [(.int .i64 ((gt x0.fIns a2993).fTx)), (.int .i64 ((gt x0.fIns a2993).fAt))] := rd_plain hp0_0 e3032
          refine dp rfl rfl rfl rfl (ex_indexAddr (d := kRef) rfl rfl rfl Tryz.underlying43 tsz81 hp0_0 (idx_lo e3032) (idx_hi e3032)) hS ?_
          refine drwp_take rfl (guard_none rfl) rfl rfl (fun w_ hS_ => (ex_loadN (cs := [(.int .i64 ((gt x0.fIns a2993).fTx)), (.int .i64 ((gt x0.fIns a2993).fAt))]) rfl rfl Tryz.underlying81 rfl tsz81 rfl ((hS_.at_ hc3033).sub 0 2 rfl))) hS ?_
          refine drwp_one rfl (guard_none rfl) rfl rfl (does_callk rfl callok50 rfl (spec_l3Among.calls (x0 := x0.fIns.take (a2993).toNat) (x1 := (gt x0.fIns a2993)) (HM.rd hr3031) h3035)) ?_
          rintro _ w3036 ⟨rfl, hn⟩
          replace HM : Mem w [] w3036 [] := HM.call hn
          have hS := Mem.suf (M := []) HM
          refine ⟨hS, ?_⟩
          refine drwp_done ?_
          refine at_then ?_
          refine run_cond (b := t3034) rfl (fun hb3037 => ?_) (fun hb3037 => ?_)
          ·replace ho2972 := cond_t hb3037 ho2972
           refine run_seq ?_
           refine run_region rfl ?_
           refine ox rfl rfl rfl rfl (ex_assign rfl rfl) ?_
           refine ops_nil (at_then ?_)
           refine run_ret ?_
           refine at_block_ret ?_
           refine at_then_ret ?_
           refine at_then_ret ?_
           refine at_block_ret ?_
           refine at_then_ret ?_
           have hR := Option.some.inj ho2972
           subst hR
           have hT := thn_inl H
           have hR := Option.some.inj hT
           subst hR
           exact at_ret1 rfl rfl ⟨_, rfl, rfl, HM⟩
          ·replace ho2972 := cond_f hb3037 ho2972
           refine run_skip ?_
           refine at_block ?_
           refine at_then ?_
           refine run_region rfl ?_
           refine ox rfl rfl rfl rfl (ex_move rfl rfl) ?_
           refine ox rfl rfl rfl rfl (ex_add rfl rfl rfl) ?_
           refine ox rfl rfl rfl rfl (ex_assign rfl rfl) ?_
           refine ops_nil ?_
           exact at_again k3014 (ρ1 := [(0, .pointer (some ⟨b0, f0, none⟩)), (3, .int .i64 (wrap64 (a2993 + 1)))]) (Nat.lt_succ_self _) ⟨_, ho2972, rfl, HM⟩ (Sub.cons rfl (Sub.cons rfl Sub.nil))
        ·replace ho2972 := cond_f hb3016 ho2972
         refine run_exit ?_
         refine at_then_exit ?_
         refine at_then_exit ?_
         refine at_block_exit ?_
         exact at_mid (ρ' := [(0, .pointer (some ⟨b0, f0, none⟩))]) ⟨(Option.some.inj ho2972), rfl, HM⟩ (Sub.cons rfl Sub.nil)
       ·rintro _ w3038 ⟨rfl, rfl, HM⟩
        replace H := (thn_inr H)
        refine run_seq ?_
        obtain ⟨t3039, h3040, H⟩ := bind_some H
        refine run_region rfl ?_
        refine ox rfl rfl rfl rfl (ex_move rfl rfl) ?_
        refine od rfl rfl rfl rfl (does_callk rfl callok51 rfl (spec_l3Outs.calls (x0 := x0) (HM.at_ hc0) (HM.rd hp0_0) (HM.rd hp0_1) h3040)) ?_
        rintro _ w3041 ⟨rfl, hn⟩
        replace HM : Mem w [] w3041 [] := HM.call hn
        refine ox rfl rfl rfl rfl (ex_assign rfl rfl) ?_
        refine ops_nil (at_then ?_)
        refine run_ret ?_
        have hR := Option.some.inj H
        subst hR
        exact at_ret1 rfl rfl ⟨_, rfl, rfl, HM⟩
end Go.Proofs.YtpfaihnmonfkhaaGreatDoor.Zk
