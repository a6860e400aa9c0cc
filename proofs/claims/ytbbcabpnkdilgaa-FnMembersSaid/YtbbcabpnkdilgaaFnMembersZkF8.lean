/- What functions of the program compute, each as a plain function, and that they do. Conditions: as each theorem states them. -/
import Derived.Test.YtbbcabpnkdilgaaFnMembersZkF7
namespace Go.Proofs.Ytbbcabpnkdilgaa.Zk
open Go Go.RowKit Go.IntWalk Go.Proofs
set_option linter.unusedVariables false
set_option linter.unusedSimpArgs false
set_option maxRecDepth 100000
set_option maxHeartbeats 4000000
def spec_l2Height.f (k : Nat) (x0 : Int) : Option Bool := ((spec_l1In.f k x0 0 999).bind fun t5475 => some t5475)
theorem spec_l2Height.calls {k : Nat} {x0 : Int}  {w : World}  {r : Bool} (H : spec_l2Height.f k x0 = some r) :
    Calls Try.prog 79 ([.int .i64 x0] : List Value).toArray w (fun e w_ => ∃ v, e = .returned v ∧ v = (.bool r) ∧ Mem w [] w_ []) := by
  have HM := Mem.start w
  refine calls_run (N := 5) Try.func79 rfl rfl rfl rfl ?_
  unfold spec_l2Height.f at H
  refine run_seq ?_
  refine run_region rfl ?_
  refine ox rfl rfl rfl rfl (ex_assign rfl rfl) ?_
  refine ops_nil (at_then (run_seq ?_))
  obtain ⟨t5475, h5476, H⟩ := bind_some H
  refine run_region rfl ?_
  refine ox rfl rfl rfl rfl (ex_move rfl rfl) ?_
  refine od rfl rfl rfl rfl (does_callk rfl callok58 rfl (spec_l1In.calls (x0 := x0) (x1 := 0) (x2 := 999) h5476)) ?_
  rintro _ w5477 ⟨rfl, hn⟩
  replace HM : Mem w [] w5477 [] := HM.call hn
  refine ox rfl rfl rfl rfl (ex_assign rfl rfl) ?_
  refine ops_nil (at_then ?_)
  refine run_ret ?_
  have hR := Option.some.inj H
  subst hR
  exact at_ret1 rfl rfl ⟨_, rfl, rfl, HM⟩

def spec_l2Fault.l0 (x0 : Rule) : Nat → Int → Option (Int ⊕ Unit)
  | 0, _ => none
  | k + 1, a5541 => (bif (decide (a5541 < (x0.fKeys.length : Int))) then (chk (idxOk a5541 x0.fKeys.length) ((spec_l1Key.f k (gt x0.fKeys a5541)).bind fun t5553 => (bif !t5553 then some (.inl 3) else spec_l2Fault.l0 x0 k (wrap64 (a5541 + 1))))) else some (.inr ()))
theorem spec_l2Fault.l0_z (x0 : Rule) (a5541 : Int) : spec_l2Fault.l0 x0 0 a5541 = none := rfl
theorem spec_l2Fault.l0_s (x0 : Rule) (k : Nat) (a5541 : Int) : spec_l2Fault.l0 x0 (k + 1) a5541 = (bif (decide (a5541 < (x0.fKeys.length : Int))) then (chk (idxOk a5541 x0.fKeys.length) ((spec_l1Key.f k (gt x0.fKeys a5541)).bind fun t5553 => (bif !t5553 then some (.inl 3) else spec_l2Fault.l0 x0 k (wrap64 (a5541 + 1))))) else some (.inr ())) := rfl
def spec_l2Fault.l1 (x0 : Rule) : Nat → Int → Option (Int ⊕ Unit)
  | 0, _ => none
  | k + 1, a5600 => (bif (decide (a5600 < (x0.fKeys.length : Int))) then (chk (idxOk a5600 x0.fKeys.length) (chk (idxOk (wrap64 (a5600 - 1)) x0.fKeys.length) (bif (decide ((gt x0.fKeys a5600) ≤ (gt x0.fKeys (wrap64 (a5600 - 1))))) then some (.inl 1) else spec_l2Fault.l1 x0 k (wrap64 (a5600 + 1))))) else some (.inr ()))
theorem spec_l2Fault.l1_z (x0 : Rule) (a5600 : Int) : spec_l2Fault.l1 x0 0 a5600 = none := rfl
theorem spec_l2Fault.l1_s (x0 : Rule) (k : Nat) (a5600 : Int) : spec_l2Fault.l1 x0 (k + 1) a5600 = (bif (decide (a5600 < (x0.fKeys.length : Int))) then (chk (idxOk a5600 x0.fKeys.length) (chk (idxOk (wrap64 (a5600 - 1)) x0.fKeys.length) (bif (decide ((gt x0.fKeys a5600) ≤ (gt x0.fKeys (wrap64 (a5600 - 1))))) then some (.inl 1) else spec_l2Fault.l1 x0 k (wrap64 (a5600 + 1))))) else some (.inr ())) := rfl
def spec_l2Fault.f (k : Nat) (x0 : Rule) : Option Int := ((spec_l1In.f k (x0.fKeys.length : Int) 1 3).bind fun t5510 => (bif !t5510 then some 2 else ((spec_l2Fault.l0 x0 k 0).bind fun o5533 => thn o5533 (fun r => some r) (fun _ => ((spec_l1In.f k x0.fNeed 1 (x0.fKeys.length : Int)).bind fun t5563 => ((bif (!(!t5563)) then spec_l2Height.f k x0.fAfter else some default).bind fun t5565 => (bif ((!t5563) || (!t5565)) then some 3 else ((spec_l2Fault.l1 x0 k 1).bind fun o5592 => thn o5592 (fun r => some r) (fun _ => some 0)))))))))
theorem spec_l2Fault.calls {k : Nat} {x0 : Rule} {b0 f0 : Nat} {p0_0 : Value} {w : World} (hc0 : CellsAt w b0 f0 [p0_0, .int .i64 x0.fNeed, .int .i64 x0.fAfter]) (hp0_0 : RdS kInt w p0_0 x0.fKeys) {r : Int} (H : spec_l2Fault.f k x0 = some r) :
    Calls Try.prog 132 ([.pointer (some ⟨b0, f0, none⟩)] : List Value).toArray w (fun e w_ => ∃ v, e = .returned v ∧ v = (.int .i64 r) ∧ Mem w [] w_ []) := by
  have HM := Mem.start w
  refine calls_run (N := 72) Try.func132 rfl rfl rfl rfl ?_
  unfold spec_l2Fault.f at H
  refine run_seq ?_
  refine run_region rfl ?_
  refine ox rfl rfl rfl rfl (ex_assign rfl rfl) ?_
  refine ops_nil (at_then (run_seq ?_))
  refine run_region rfl ?_
  refine ox rfl rfl rfl rfl (ex_move rfl rfl) ?_
  refine ox rfl rfl rfl rfl (ex_nilCheck rfl rfl) ?_
  refine ox rfl rfl rfl rfl (ex_fieldAddr (off' := f0) rfl rfl Try.underlying67 rfl tsz39 rfl) ?_
  refine ox rfl rfl rfl rfl (ex_load1 rfl rfl Try.underlying39 rfl ((HM.at_ hc0) 0 _ rfl)) ?_
  refine ox rfl rfl rfl rfl (ex_len (d := kInt) (xs := x0.fKeys) rfl rfl Try.underlying39 hp0_0) ?_
  refine ox rfl rfl rfl rfl (ex_assign rfl rfl) ?_
  refine ops_nil (at_then (run_seq ?_))
  refine run_seq ?_
  obtain ⟨t5510, h5511, H⟩ := bind_some H
  refine run_region rfl ?_
  refine ox rfl rfl rfl rfl (ex_move rfl rfl) ?_
  refine od rfl rfl rfl rfl (does_callk rfl callok58 rfl (spec_l1In.calls (x0 := (x0.fKeys.length : Int)) (x1 := 1) (x2 := 3) h5511)) ?_
  rintro _ w5512 ⟨rfl, hn⟩
  replace HM : Mem w [] w5512 [] := HM.call hn
  refine ox rfl rfl rfl rfl (ex_not rfl rfl) ?_
  refine ops_nil (at_then ?_)
  refine run_cond (b := !t5510) rfl (fun hb5513 => ?_) (fun hb5513 => ?_)
  · replace H := cond_t hb5513 H
    refine run_seq ?_
    refine run_region rfl ?_
    refine ox rfl rfl rfl rfl (ex_assign rfl rfl) ?_
    refine ops_nil (at_then ?_)
    refine run_ret ?_
    refine at_then_ret ?_
    have hR := Option.some.inj H
    subst hR
    exact at_ret1 rfl rfl ⟨_, rfl, rfl, HM⟩
  · replace H := cond_f hb5513 H
    refine run_skip ?_
    refine at_then ?_
    obtain ⟨o5533, ho5534, H⟩ := bind_some H
    refine run_mid (fun ρ_ w_ => Sum.inr () = o5533 ∧ ρ_ = [(0, .pointer (some ⟨b0, f0, none⟩)), (3, .int .i64 (x0.fKeys.length : Int))] ∧ Mem w [] w_ []) ?_ ?_
    · skip
      refine run_seq ?_
      refine run_region rfl ?_
      refine ox rfl rfl rfl rfl (ex_assign rfl rfl) ?_
      refine ops_nil (at_then ?_)
      refine run_block ?_
      refine run_loop (fun k_ ρ_ w_ => ∃ a5541 : Int, spec_l2Fault.l0 x0 k_ a5541 = some o5533 ∧ ρ_ = [(0, .pointer (some ⟨b0, f0, none⟩)), (3, .int .i64 (x0.fKeys.length : Int)), (4, .int .i64 a5541)] ∧ Mem w [] w_ []) k (ρ1 := [(0, .pointer (some ⟨b0, f0, none⟩)), (3, .int .i64 (x0.fKeys.length : Int)), (4, .int .i64 0)]) ⟨_, ho5534, rfl, HM⟩ (Sub.cons rfl (Sub.cons rfl (Sub.cons rfl Sub.nil))) ?_
      clear HM ho5534
      rintro k5548 _ w5549 ⟨a5541, ho5534, rfl, HM⟩
      obtain _ | k5548 := k5548
      · exact nomatch ((spec_l2Fault.l0_z x0 a5541).symm.trans ho5534)
      replace ho5534 := (spec_l2Fault.l0_s x0 k5548 a5541).symm.trans ho5534
      refine run_seq ?_
      refine run_seq ?_
      refine run_region rfl ?_
      refine ox rfl rfl rfl rfl (ex_move rfl rfl) ?_
      refine ox rfl rfl rfl rfl (ex_move rfl rfl) ?_
      refine ox rfl rfl rfl rfl (ex_nilCheck rfl rfl) ?_
      refine ox rfl rfl rfl rfl (ex_fieldAddr (off' := f0) rfl rfl Try.underlying67 rfl tsz39 rfl) ?_
      refine ox rfl rfl rfl rfl (ex_load1 rfl rfl Try.underlying39 rfl ((HM.at_ hc0) 0 _ rfl)) ?_
      refine ox rfl rfl rfl rfl (ex_len (d := kInt) (xs := x0.fKeys) rfl rfl Try.underlying39 hp0_0) ?_
      refine ox rfl rfl rfl rfl (ex_lss rfl rfl rfl) ?_
      refine ops_nil (at_then ?_)
      refine run_cond (b := (decide (a5541 < (x0.fKeys.length : Int)))) rfl (fun hb5550 => ?_) (fun hb5550 => ?_)
      · replace ho5534 := cond_t hb5550 ho5534
        refine run_skip ?_
        refine at_then ?_
        refine run_seq ?_
        refine run_block ?_
        refine run_seq ?_
        obtain ⟨e5551, ho5534⟩ := chk_some ho5534
        obtain ⟨t5553, h5554, ho5534⟩ := bind_some ho5534
        refine run_region rfl ?_
        refine ox rfl rfl rfl rfl (ex_move rfl rfl) ?_
        refine ox rfl rfl rfl rfl (ex_nilCheck rfl rfl) ?_
        refine ox rfl rfl rfl rfl (ex_fieldAddr (off' := f0) rfl rfl Try.underlying67 rfl tsz39 rfl) ?_
        refine ox rfl rfl rfl rfl (ex_load1 rfl rfl Try.underlying39 rfl ((HM.at_ hc0) 0 _ rfl)) ?_
        refine ox rfl rfl rfl rfl (ex_move rfl rfl) ?_
        have hc5552 : CellsAt _ (sb p0_0) (so p0_0 + (a5541).toNat * 1) [(.int .i64 (gt x0.fKeys a5541))] := rd_plain hp0_0 e5551
        refine ox rfl rfl rfl rfl (ex_indexAddr (d := kInt) rfl rfl rfl Try.underlying39 tsz2 hp0_0 (idx_lo e5551) (idx_hi e5551)) ?_
        refine ox rfl rfl rfl rfl (ex_load1 rfl rfl Try.underlying2 rfl ((HM.at_ hc5552) 0 _ rfl)) ?_
        refine od rfl rfl rfl rfl (does_callk rfl callok116 rfl (spec_l1Key.calls (x0 := (gt x0.fKeys a5541)) h5554)) ?_
        rintro _ w5555 ⟨rfl, hn⟩
        replace HM : Mem w [] w5555 [] := HM.call hn
        refine ox rfl rfl rfl rfl (ex_not rfl rfl) ?_
        refine ops_nil (at_then ?_)
        refine run_cond (b := !t5553) rfl (fun hb5556 => ?_) (fun hb5556 => ?_)
        · replace ho5534 := cond_t hb5556 ho5534
          refine run_seq ?_
          refine run_region rfl ?_
          refine ox rfl rfl rfl rfl (ex_assign rfl rfl) ?_
          refine ops_nil (at_then ?_)
          refine run_ret ?_
          refine at_block_ret ?_
          refine at_then_ret ?_
          refine at_then_ret ?_
          refine at_block_ret ?_
          refine at_then_ret ?_
          have hR := Option.some.inj ho5534
          subst hR
          have hT := thn_inl H
          have hR := Option.some.inj hT
          subst hR
          exact at_ret1 rfl rfl ⟨_, rfl, rfl, HM⟩
        · replace ho5534 := cond_f hb5556 ho5534
          refine run_skip ?_
          refine at_block ?_
          refine at_then ?_
          refine run_region rfl ?_
          refine ox rfl rfl rfl rfl (ex_move rfl rfl) ?_
          refine ox rfl rfl rfl rfl (ex_add rfl rfl rfl) ?_
          refine ox rfl rfl rfl rfl (ex_assign rfl rfl) ?_
          refine ops_nil ?_
          exact at_again k5548 (ρ1 := [(0, .pointer (some ⟨b0, f0, none⟩)), (3, .int .i64 (x0.fKeys.length : Int)), (4, .int .i64 (wrap64 (a5541 + 1)))]) (Nat.lt_succ_self _) ⟨_, ho5534, rfl, HM⟩ (Sub.cons rfl (Sub.cons rfl (Sub.cons rfl Sub.nil)))
      · replace ho5534 := cond_f hb5550 ho5534
        refine run_exit ?_
        refine at_then_exit ?_
        refine at_then_exit ?_
        refine at_block_exit ?_
        exact at_mid (ρ' := [(0, .pointer (some ⟨b0, f0, none⟩)), (3, .int .i64 (x0.fKeys.length : Int))]) ⟨(Option.some.inj ho5534), rfl, HM⟩ (Sub.cons rfl (Sub.cons rfl Sub.nil))
    · rintro _ w5557 ⟨rfl, rfl, HM⟩
      replace H := (thn_inr H)
      refine run_seq ?_
      refine run_seq ?_
      obtain ⟨t5563, h5564, H⟩ := bind_some H
      obtain ⟨t5565, h5566, H⟩ := bind_some H
      refine run_meet (fun ρ_ w_ => ρ_ = [(0, .pointer (some ⟨b0, f0, none⟩)), (46, .bool ((!t5563) || (!t5565)))] ∧ Mem w [] w_ []) ?_ ?_
      · skip
        refine run_region rfl ?_
        refine ox rfl rfl rfl rfl (ex_move rfl rfl) ?_
        refine ox rfl rfl rfl rfl (ex_nilCheck rfl rfl) ?_
        refine ox rfl rfl rfl rfl (ex_fieldAddr (off' := f0 + 1) rfl rfl Try.underlying67 rfl tsz2 rfl) ?_
        refine ox rfl rfl rfl rfl (ex_load1 rfl rfl Try.underlying2 rfl ((HM.at_ hc0) 1 _ rfl)) ?_
        refine ox rfl rfl rfl rfl (ex_move rfl rfl) ?_
        refine od rfl rfl rfl rfl (does_callk rfl callok58 rfl (spec_l1In.calls (x0 := x0.fNeed) (x1 := 1) (x2 := (x0.fKeys.length : Int)) h5564)) ?_
        rintro _ w5567 ⟨rfl, hn⟩
        replace HM : Mem w [] w5567 [] := HM.call hn
        refine ox rfl rfl rfl rfl (ex_not rfl rfl) ?_
        refine ox rfl rfl rfl rfl (ex_move rfl rfl) ?_
        refine bool_cases (!t5563) (fun hg5568 => ?_) (fun hg5568 => ?_)
        · skip
          refine ops_off rfl (guard_off rfl rfl rfl hg5568) rfl rfl ?_
          refine ops_off rfl (guard_off rfl rfl rfl hg5568) rfl rfl ?_
          refine ops_off rfl (guard_off rfl rfl rfl hg5568) rfl rfl ?_
          refine ops_off rfl (guard_off rfl rfl rfl hg5568) rfl rfl ?_
          refine ops_off rfl (guard_off rfl rfl rfl hg5568) rfl rfl ?_
          refine ops_off rfl (guard_off rfl rfl rfl hg5568) rfl rfl ?_
          have hg5569 : ((!t5563) || (!t5565)) = true := by simp only [hg5568, Bool.and_true, Bool.true_and, Bool.and_false, Bool.false_and, Bool.or_true, Bool.true_or, Bool.or_false, Bool.false_or, Bool.not_true, Bool.not_false, Bool.not_not]
          refine ops_ex (v := .bool ((!t5563) || (!t5565))) rfl (guard_none rfl) rfl rfl (ex_por_t rfl rfl hg5568) ?_
          refine ops_nil ?_
          exact at_meet [(0, .pointer (some ⟨b0, f0, none⟩)), (46, .bool ((!t5563) || (!t5565)))] ⟨rfl, HM⟩ (Sub.cons rfl (Sub.cons rfl Sub.nil))
        · skip
          refine ops_ex rfl (guard_on rfl rfl rfl hg5568) rfl rfl (ex_move rfl rfl) ?_
          refine ops_ex rfl (guard_on rfl rfl rfl hg5568) rfl rfl (ex_nilCheck rfl rfl) ?_
          refine ops_ex rfl (guard_on rfl rfl rfl hg5568) rfl rfl (ex_fieldAddr (off' := f0 + 2) rfl rfl Try.underlying67 rfl tsz2 rfl) ?_
          refine ops_ex rfl (guard_on rfl rfl rfl hg5568) rfl rfl (ex_load1 rfl rfl Try.underlying2 rfl ((HM.at_ hc0) 2 _ rfl)) ?_
          refine ops_does rfl (guard_on rfl rfl rfl hg5568) rfl rfl (does_callk rfl callok79 rfl (spec_l2Height.calls (x0 := x0.fAfter) (cond_t (not_mk hg5568) h5566))) ?_
          rintro _ w5570 ⟨rfl, hn⟩
          replace HM : Mem w [] w5570 [] := HM.call hn
          refine ops_ex rfl (guard_on rfl rfl rfl hg5568) rfl rfl (ex_not rfl rfl) ?_
          refine ops_ex (v := .bool ((!t5563) || (!t5565))) rfl (guard_none rfl) rfl rfl (ex_por_f rfl rfl hg5568 rfl) ?_
          refine ops_nil ?_
          exact at_meet [(0, .pointer (some ⟨b0, f0, none⟩)), (46, .bool ((!t5563) || (!t5565)))] ⟨rfl, HM⟩ (Sub.cons rfl (Sub.cons rfl Sub.nil))
      · rintro _ w5571 ⟨rfl, HM⟩
        refine at_then ?_
        refine run_cond (b := ((!t5563) || (!t5565))) rfl (fun hb5572 => ?_) (fun hb5572 => ?_)
        · replace H := cond_t hb5572 H
          refine run_seq ?_
          refine run_region rfl ?_
          refine ox rfl rfl rfl rfl (ex_assign rfl rfl) ?_
          refine ops_nil (at_then ?_)
          refine run_ret ?_
          refine at_then_ret ?_
          have hR := Option.some.inj H
          subst hR
          exact at_ret1 rfl rfl ⟨_, rfl, rfl, HM⟩
        · replace H := cond_f hb5572 H
          refine run_skip ?_
          refine at_then ?_
          obtain ⟨o5592, ho5593, H⟩ := bind_some H
          refine run_mid (fun ρ_ w_ => Sum.inr () = o5592 ∧ ρ_ = [] ∧ Mem w [] w_ []) ?_ ?_
          · skip
            refine run_seq ?_
            refine run_region rfl ?_
            refine ox rfl rfl rfl rfl (ex_assign rfl rfl) ?_
            refine ops_nil (at_then ?_)
            refine run_block ?_
            refine run_loop (fun k_ ρ_ w_ => ∃ a5600 : Int, spec_l2Fault.l1 x0 k_ a5600 = some o5592 ∧ ρ_ = [(0, .pointer (some ⟨b0, f0, none⟩)), (5, .int .i64 a5600)] ∧ Mem w [] w_ []) k (ρ1 := [(0, .pointer (some ⟨b0, f0, none⟩)), (5, .int .i64 1)]) ⟨_, ho5593, rfl, HM⟩ (Sub.cons rfl (Sub.cons rfl Sub.nil)) ?_
            clear HM ho5593
            rintro k5607 _ w5608 ⟨a5600, ho5593, rfl, HM⟩
            obtain _ | k5607 := k5607
            · exact nomatch ((spec_l2Fault.l1_z x0 a5600).symm.trans ho5593)
            replace ho5593 := (spec_l2Fault.l1_s x0 k5607 a5600).symm.trans ho5593
            refine run_seq ?_
            refine run_seq ?_
            refine run_region rfl ?_
            refine ox rfl rfl rfl rfl (ex_move rfl rfl) ?_
            refine ox rfl rfl rfl rfl (ex_move rfl rfl) ?_
            refine ox rfl rfl rfl rfl (ex_nilCheck rfl rfl) ?_
            refine ox rfl rfl rfl rfl (ex_fieldAddr (off' := f0) rfl rfl Try.underlying67 rfl tsz39 rfl) ?_
            refine ox rfl rfl rfl rfl (ex_load1 rfl rfl Try.underlying39 rfl ((HM.at_ hc0) 0 _ rfl)) ?_
            refine ox rfl rfl rfl rfl (ex_len (d := kInt) (xs := x0.fKeys) rfl rfl Try.underlying39 hp0_0) ?_
            refine ox rfl rfl rfl rfl (ex_lss rfl rfl rfl) ?_
            refine ops_nil (at_then ?_)
            refine run_cond (b := (decide (a5600 < (x0.fKeys.length : Int)))) rfl (fun hb5609 => ?_) (fun hb5609 => ?_)
            · replace ho5593 := cond_t hb5609 ho5593
              refine run_skip ?_
              refine at_then ?_
              refine run_seq ?_
              refine run_block ?_
              refine run_seq ?_
              obtain ⟨e5610, ho5593⟩ := chk_some ho5593
              obtain ⟨e5612, ho5593⟩ := chk_some ho5593
              refine run_drawf (fun w_ => Mem w [] w_ []) [(0, true), (1, true), (2, true), (3, true), (4, true), (5, true), (6, true), (7, true), (8, true), (9, true), (10, true), (11, true), (12, true), (13, true), (14, true), (15, true)] mixed rfl rfl (by kernel_rfl) ?_
              replace HM := HM.grow (fr_drew _)
              have hS := Mem.suf (M := []) HM
              refine dp rfl rfl rfl rfl (ex_move rfl rfl) hS ?_
              refine dp rfl rfl rfl rfl (ex_nilCheck rfl rfl) hS ?_
              refine dp rfl rfl rfl rfl (ex_fieldAddr (off' := f0) rfl rfl Try.underlying67 rfl tsz39 rfl) hS ?_
              refine drwp_take rfl (guard_none rfl) rfl rfl (fun w_ hS_ => (ex_load1 rfl rfl Try.underlying39 rfl ((hS_.at_ hc0) 0 _ rfl))) hS ?_
              refine dp rfl rfl rfl rfl (ex_move rfl rfl) hS ?_
              have hc5611 : CellsAt _ (sb p0_0) (so p0_0 + (a5600).toNat * 1) [(.int .i64 (gt x0.fKeys a5600))] := rd_plain hp0_0 e5610
              refine dp rfl rfl rfl rfl (ex_indexAddr (d := kInt) rfl rfl rfl Try.underlying39 tsz2 hp0_0 (idx_lo e5610) (idx_hi e5610)) hS ?_
              refine drwp_take rfl (guard_none rfl) rfl rfl (fun w_ hS_ => (ex_load1 rfl rfl Try.underlying2 rfl ((hS_.at_ hc5611) 0 _ rfl))) hS ?_
              refine dp rfl rfl rfl rfl (ex_move rfl rfl) hS ?_
              refine dp rfl rfl rfl rfl (ex_nilCheck rfl rfl) hS ?_
              refine dp rfl rfl rfl rfl (ex_fieldAddr (off' := f0) rfl rfl Try.underlying67 rfl tsz39 rfl) hS ?_
              refine drwp_take rfl (guard_none rfl) rfl rfl (fun w_ hS_ => (ex_load1 rfl rfl Try.underlying39 rfl ((hS_.at_ hc0) 0 _ rfl))) hS ?_
              refine dp rfl rfl rfl rfl (ex_move rfl rfl) hS ?_
              refine dp rfl rfl rfl rfl (ex_sub rfl rfl rfl) hS ?_
              have hc5613 : CellsAt _ (sb p0_0) (so p0_0 + (wrap64 (a5600 - 1)).toNat * 1) [(.int .i64 (gt x0.fKeys (wrap64 (a5600 - 1))))] := rd_plain hp0_0 e5612
              refine dp rfl rfl rfl rfl (ex_indexAddr (d := kInt) rfl rfl rfl Try.underlying39 tsz2 hp0_0 (idx_lo e5612) (idx_hi e5612)) hS ?_
              refine drwp_take rfl (guard_none rfl) rfl rfl (fun w_ hS_ => (ex_load1 rfl rfl Try.underlying2 rfl ((hS_.at_ hc5613) 0 _ rfl))) hS ?_
              refine dp rfl rfl rfl rfl (ex_leq rfl rfl rfl) hS ?_
              refine drwp_done ?_
              refine at_then ?_
              refine run_cond (b := (decide ((gt x0.fKeys a5600) ≤ (gt x0.fKeys (wrap64 (a5600 - 1)))))) rfl (fun hb5614 => ?_) (fun hb5614 => ?_)
              · replace ho5593 := cond_t hb5614 ho5593
                refine run_seq ?_
                refine run_region rfl ?_
                refine ox rfl rfl rfl rfl (ex_assign rfl rfl) ?_
                refine ops_nil (at_then ?_)
                refine run_ret ?_
                refine at_block_ret ?_
                refine at_then_ret ?_
                refine at_then_ret ?_
                refine at_block_ret ?_
                refine at_then_ret ?_
                have hR := Option.some.inj ho5593
                subst hR
                have hT := thn_inl H
                have hR := Option.some.inj hT
                subst hR
                exact at_ret1 rfl rfl ⟨_, rfl, rfl, HM⟩
              · replace ho5593 := cond_f hb5614 ho5593
                refine run_skip ?_
                refine at_block ?_
                refine at_then ?_
                refine run_region rfl ?_
                refine ox rfl rfl rfl rfl (ex_move rfl rfl) ?_
                refine ox rfl rfl rfl rfl (ex_add rfl rfl rfl) ?_
                refine ox rfl rfl rfl rfl (ex_assign rfl rfl) ?_
                refine ops_nil ?_
                exact at_again k5607 (ρ1 := [(0, .pointer (some ⟨b0, f0, none⟩)), (5, .int .i64 (wrap64 (a5600 + 1)))]) (Nat.lt_succ_self _) ⟨_, ho5593, rfl, HM⟩ (Sub.cons rfl (Sub.cons rfl Sub.nil))
            · replace ho5593 := cond_f hb5609 ho5593
              refine run_exit ?_
              refine at_then_exit ?_
              refine at_then_exit ?_
              refine at_block_exit ?_
              exact at_mid (ρ' := []) ⟨(Option.some.inj ho5593), rfl, HM⟩ Sub.nil
          · rintro _ w5615 ⟨rfl, rfl, HM⟩
            replace H := (thn_inr H)
            refine run_seq ?_
            refine run_region rfl ?_
            refine ox rfl rfl rfl rfl (ex_assign rfl rfl) ?_
            refine ops_nil (at_then ?_)
            refine run_ret ?_
            have hR := Option.some.inj H
            subst hR
            exact at_ret1 rfl rfl ⟨_, rfl, rfl, HM⟩

def spec_l3Outs.l0 (x0 : Tx) : Nat → Int → Option (Int ⊕ Unit)
  | 0, _ => none
  | k + 1, a5762 => (bif (decide (a5762 < (x0.fOuts.length : Int))) then (chk (idxOk a5762 x0.fOuts.length) ((spec_l1In.f k ((gt x0.fOuts a5762).fValue) 1 1000000).bind fun t5799 => (bif !t5799 then some (.inl 3) else (chk (idxOk a5762 x0.fOuts.length) ((spec_l2Fault.f k ((gt x0.fOuts a5762).fRule)).bind fun t5807 => (bif (t5807 != 0) then some (.inl t5807) else spec_l3Outs.l0 x0 k (wrap64 (a5762 + 1)))))))) else some (.inr ()))
theorem spec_l3Outs.l0_z (x0 : Tx) (a5762 : Int) : spec_l3Outs.l0 x0 0 a5762 = none := rfl
theorem spec_l3Outs.l0_s (x0 : Tx) (k : Nat) (a5762 : Int) : spec_l3Outs.l0 x0 (k + 1) a5762 = (bif (decide (a5762 < (x0.fOuts.length : Int))) then (chk (idxOk a5762 x0.fOuts.length) ((spec_l1In.f k ((gt x0.fOuts a5762).fValue) 1 1000000).bind fun t5799 => (bif !t5799 then some (.inl 3) else (chk (idxOk a5762 x0.fOuts.length) ((spec_l2Fault.f k ((gt x0.fOuts a5762).fRule)).bind fun t5807 => (bif (t5807 != 0) then some (.inl t5807) else spec_l3Outs.l0 x0 k (wrap64 (a5762 + 1)))))))) else some (.inr ())) := rfl
def spec_l3Outs.f (k : Nat) (x0 : Tx) : Option Int := ((spec_l3Outs.l0 x0 k 0).bind fun o5738 => thn o5738 (fun r => some r) (fun _ => (chk (!(x0.fKind == 1) || (idxOk (0 : Int) x0.fOuts.length)) (bif ((x0.fKind == 1) && (decide (((gt x0.fOuts (0 : Int)).fValue) < 100))) then some 8 else some 0))))
theorem spec_l3Outs.calls {k : Nat} {x0 : Tx} {b0 f0 : Nat} {p0_0 : Value} {p0_1 : Value} {w : World} (hc0 : CellsAt w b0 f0 [.int .i64 x0.fKind, .int .i64 x0.fMember, p0_0, p0_1]) (hp0_0 : RdS kRef w p0_0 x0.fIns) (hp0_1 : RdS kOut w p0_1 x0.fOuts) {r : Int} (H : spec_l3Outs.f k x0 = some r) :
    Calls Try.prog 118 ([.pointer (some ⟨b0, f0, none⟩)] : List Value).toArray w (fun e w_ => ∃ v, e = .returned v ∧ v = (.int .i64 r) ∧ Mem w [] w_ []) := by
  have HM := Mem.start w
  refine calls_run (N := 50) Try.func118 rfl rfl rfl rfl ?_
  unfold spec_l3Outs.f at H
  refine run_seq ?_
  refine run_region rfl ?_
  refine ox rfl rfl rfl rfl (ex_assign rfl rfl) ?_
  refine ops_nil (at_then ?_)
  obtain ⟨o5738, ho5739, H⟩ := bind_some H
  refine run_mid (fun ρ_ w_ => Sum.inr () = o5738 ∧ ρ_ = [(0, .pointer (some ⟨b0, f0, none⟩))] ∧ Mem w [] w_ []) ?_ ?_
  · skip
    refine run_seq ?_
    refine run_region rfl ?_
    refine ox rfl rfl rfl rfl (ex_assign rfl rfl) ?_
    refine ops_nil (at_then ?_)
    refine run_block ?_
    refine run_loop (fun k_ ρ_ w_ => ∃ a5762 : Int, spec_l3Outs.l0 x0 k_ a5762 = some o5738 ∧ ρ_ = [(0, .pointer (some ⟨b0, f0, none⟩)), (3, .int .i64 a5762)] ∧ Mem w [] w_ []) k (ρ1 := [(0, .pointer (some ⟨b0, f0, none⟩)), (3, .int .i64 0)]) ⟨_, ho5739, rfl, HM⟩ (Sub.cons rfl (Sub.cons rfl Sub.nil)) ?_
    clear HM ho5739
    rintro k5785 _ w5786 ⟨a5762, ho5739, rfl, HM⟩
    obtain _ | k5785 := k5785
    · exact nomatch ((spec_l3Outs.l0_z x0 a5762).symm.trans ho5739)
    replace ho5739 := (spec_l3Outs.l0_s x0 k5785 a5762).symm.trans ho5739
    refine run_seq ?_
    refine run_seq ?_
    refine run_region rfl ?_
    refine ox rfl rfl rfl rfl (ex_move rfl rfl) ?_
    refine ox rfl rfl rfl rfl (ex_move rfl rfl) ?_
    refine ox rfl rfl rfl rfl (ex_nilCheck rfl rfl) ?_
    refine ox rfl rfl rfl rfl (ex_fieldAddr (off' := f0 + 3) rfl rfl Try.underlying28 rfl tsz26 rfl) ?_
    refine ox rfl rfl rfl rfl (ex_load1 rfl rfl Try.underlying26 rfl ((HM.at_ hc0) 3 _ rfl)) ?_
    refine ox rfl rfl rfl rfl (ex_len (d := kOut) (xs := x0.fOuts) rfl rfl Try.underlying26 hp0_1) ?_
    refine ox rfl rfl rfl rfl (ex_lss rfl rfl rfl) ?_
    refine ops_nil (at_then ?_)
    refine run_cond (b := (decide (a5762 < (x0.fOuts.length : Int)))) rfl (fun hb5787 => ?_) (fun hb5787 => ?_)
    · replace ho5739 := cond_t hb5787 ho5739
      refine run_skip ?_
      refine at_then ?_
      refine run_seq ?_
      refine run_block ?_
      refine run_seq ?_
      refine run_seq ?_
      obtain ⟨e5795, ho5739⟩ := chk_some ho5739
      obtain ⟨t5799, h5800, ho5739⟩ := bind_some ho5739
      refine run_region rfl ?_
      refine ox rfl rfl rfl rfl (ex_move rfl rfl) ?_
      refine ox rfl rfl rfl rfl (ex_nilCheck rfl rfl) ?_
      refine ox rfl rfl rfl rfl (ex_fieldAddr (off' := f0 + 3) rfl rfl Try.underlying28 rfl tsz26 rfl) ?_
      refine ox rfl rfl rfl rfl (ex_load1 rfl rfl Try.underlying26 rfl ((HM.at_ hc0) 3 _ rfl)) ?_
      refine ox rfl rfl rfl rfl (ex_move rfl rfl) ?_
      obtain ⟨kv5797, hc5796, hk5798⟩ : ∃ u, CellsAt _ (sb p0_1) (so p0_1 + (a5762).toNat * 4) [(.int .i64 ((gt x0.fOuts a5762).fValue)), u, (.int .i64 ((gt x0.fOuts a5762).fRule.fNeed)), (.int .i64 ((gt x0.fOuts a5762).fRule.fAfter))] ∧ RdS kInt _ u ((gt x0.fOuts a5762).fRule.fKeys) := rd_with1 hp0_1 e5795
      refine ox rfl rfl rfl rfl (ex_indexAddr (d := kOut) rfl rfl rfl Try.underlying26 tsz69 hp0_1 (idx_lo e5795) (idx_hi e5795)) ?_
      refine ox rfl rfl rfl rfl (ex_fieldAddr (off' := so p0_1 + (a5762).toNat * 4) rfl rfl Try.underlying69 rfl tsz2 rfl) ?_
      refine ox rfl rfl rfl rfl (ex_load1 rfl rfl Try.underlying2 rfl ((HM.at_ hc5796) 0 _ rfl)) ?_
      refine od rfl rfl rfl rfl (does_callk rfl callok58 rfl (spec_l1In.calls (x0 := (gt x0.fOuts a5762).fValue) (x1 := 1) (x2 := 1000000) h5800)) ?_
      rintro _ w5801 ⟨rfl, hn⟩
      replace HM : Mem w [] w5801 [] := HM.call hn
      refine ox rfl rfl rfl rfl (ex_not rfl rfl) ?_
      refine ops_nil (at_then ?_)
      refine run_cond (b := !t5799) rfl (fun hb5802 => ?_) (fun hb5802 => ?_)
      · replace ho5739 := cond_t hb5802 ho5739
        refine run_seq ?_
        refine run_region rfl ?_
        refine ox rfl rfl rfl rfl (ex_assign rfl rfl) ?_
        refine ops_nil (at_then ?_)
        refine run_ret ?_
        refine at_then_ret ?_
        refine at_block_ret ?_
        refine at_then_ret ?_
        refine at_then_ret ?_
        refine at_block_ret ?_
        refine at_then_ret ?_
        have hR := Option.some.inj ho5739
        subst hR
        have hT := thn_inl H
        have hR := Option.some.inj hT
        subst hR
        exact at_ret1 rfl rfl ⟨_, rfl, rfl, HM⟩
      · replace ho5739 := cond_f hb5802 ho5739
        refine run_skip ?_
        refine at_then ?_
        refine run_seq ?_
        obtain ⟨e5803, ho5739⟩ := chk_some ho5739
        obtain ⟨t5807, h5808, ho5739⟩ := bind_some ho5739
        refine run_region rfl ?_
        refine ox rfl rfl rfl rfl (ex_move rfl rfl) ?_
        refine ox rfl rfl rfl rfl (ex_nilCheck rfl rfl) ?_
        refine ox rfl rfl rfl rfl (ex_fieldAddr (off' := f0 + 3) rfl rfl Try.underlying28 rfl tsz26 rfl) ?_
        refine ox rfl rfl rfl rfl (ex_load1 rfl rfl Try.underlying26 rfl ((HM.at_ hc0) 3 _ rfl)) ?_
        refine ox rfl rfl rfl rfl (ex_move rfl rfl) ?_
        obtain ⟨kv5805, hc5804, hk5806⟩ : ∃ u, CellsAt _ (sb p0_1) (so p0_1 + (a5762).toNat * 4) [(.int .i64 ((gt x0.fOuts a5762).fValue)), u, (.int .i64 ((gt x0.fOuts a5762).fRule.fNeed)), (.int .i64 ((gt x0.fOuts a5762).fRule.fAfter))] ∧ RdS kInt _ u ((gt x0.fOuts a5762).fRule.fKeys) := rd_with1 hp0_1 e5803
        refine ox rfl rfl rfl rfl (ex_indexAddr (d := kOut) rfl rfl rfl Try.underlying26 tsz69 hp0_1 (idx_lo e5803) (idx_hi e5803)) ?_
        refine ox rfl rfl rfl rfl (ex_fieldAddr (off' := so p0_1 + (a5762).toNat * 4 + 1) rfl rfl Try.underlying69 rfl tsz67 rfl) ?_
        refine od rfl rfl rfl rfl (does_callk rfl callok132 rfl (spec_l2Fault.calls (x0 := (gt x0.fOuts a5762).fRule) (CellsAt.sub (HM.at_ hc5804) 1 3 rfl) (HM.rd hk5806) h5808)) ?_
        rintro _ w5809 ⟨rfl, hn⟩
        replace HM : Mem w [] w5809 [] := HM.call hn
        refine ox rfl rfl rfl rfl (ex_assign rfl rfl) ?_
        refine ops_nil (at_then (run_seq ?_))
        refine run_region rfl ?_
        refine ox rfl rfl rfl rfl (ex_move rfl rfl) ?_
        refine ox rfl rfl rfl rfl (ex_neq rfl rfl rfl) ?_
        refine ops_nil (at_then ?_)
        refine run_cond (b := (t5807 != 0)) rfl (fun hb5810 => ?_) (fun hb5810 => ?_)
        · replace ho5739 := cond_t hb5810 ho5739
          refine run_seq ?_
          refine run_region rfl ?_
          refine ox rfl rfl rfl rfl (ex_move rfl rfl) ?_
          refine ox rfl rfl rfl rfl (ex_assign rfl rfl) ?_
          refine ops_nil (at_then ?_)
          refine run_ret ?_
          refine at_block_ret ?_
          refine at_then_ret ?_
          refine at_then_ret ?_
          refine at_block_ret ?_
          refine at_then_ret ?_
          have hR := Option.some.inj ho5739
          subst hR
          have hT := thn_inl H
          have hR := Option.some.inj hT
          subst hR
          exact at_ret1 rfl rfl ⟨_, rfl, rfl, HM⟩
        · replace ho5739 := cond_f hb5810 ho5739
          refine run_skip ?_
          refine at_block ?_
          refine at_then ?_
          refine run_region rfl ?_
          refine ox rfl rfl rfl rfl (ex_move rfl rfl) ?_
          refine ox rfl rfl rfl rfl (ex_add rfl rfl rfl) ?_
          refine ox rfl rfl rfl rfl (ex_assign rfl rfl) ?_
          refine ops_nil ?_
          exact at_again k5785 (ρ1 := [(0, .pointer (some ⟨b0, f0, none⟩)), (3, .int .i64 (wrap64 (a5762 + 1)))]) (Nat.lt_succ_self _) ⟨_, ho5739, rfl, HM⟩ (Sub.cons rfl (Sub.cons rfl Sub.nil))
    · replace ho5739 := cond_f hb5787 ho5739
      refine run_exit ?_
      refine at_then_exit ?_
      refine at_then_exit ?_
      refine at_block_exit ?_
      exact at_mid (ρ' := [(0, .pointer (some ⟨b0, f0, none⟩))]) ⟨(Option.some.inj ho5739), rfl, HM⟩ (Sub.cons rfl Sub.nil)
  · rintro _ w5811 ⟨rfl, rfl, HM⟩
    replace H := (thn_inr H)
    refine run_seq ?_
    refine run_seq ?_
    obtain ⟨e5812, H⟩ := chk_some H
    refine run_meet (fun ρ_ w_ => ρ_ = [(49, .bool ((x0.fKind == 1) && (decide (((gt x0.fOuts (0 : Int)).fValue) < 100))))] ∧ Mem w [] w_ []) ?_ ?_
    · skip
      refine run_region rfl ?_
      refine ox rfl rfl rfl rfl (ex_move rfl rfl) ?_
      refine ox rfl rfl rfl rfl (ex_nilCheck rfl rfl) ?_
      refine ox rfl rfl rfl rfl (ex_fieldAddr (off' := f0) rfl rfl Try.underlying28 rfl tsz2 rfl) ?_
      refine ox rfl rfl rfl rfl (ex_load1 rfl rfl Try.underlying2 rfl ((HM.at_ hc0) 0 _ rfl)) ?_
      refine ox rfl rfl rfl rfl (ex_eql rfl rfl rfl) ?_
      refine ox rfl rfl rfl rfl (ex_move rfl rfl) ?_
      refine bool_cases (x0.fKind == 1) (fun hg5816 => ?_) (fun hg5816 => ?_)
      · skip
        refine ops_ex rfl (guard_on rfl rfl rfl hg5816) rfl rfl (ex_move rfl rfl) ?_
        refine ops_ex rfl (guard_on rfl rfl rfl hg5816) rfl rfl (ex_nilCheck rfl rfl) ?_
        refine ops_ex rfl (guard_on rfl rfl rfl hg5816) rfl rfl (ex_fieldAddr (off' := f0 + 3) rfl rfl Try.underlying28 rfl tsz26 rfl) ?_
        refine ops_ex rfl (guard_on rfl rfl rfl hg5816) rfl rfl (ex_load1 rfl rfl Try.underlying26 rfl ((HM.at_ hc0) 3 _ rfl)) ?_
        obtain ⟨kv5814, hc5813, hk5815⟩ : ∃ u, CellsAt _ (sb p0_1) (so p0_1 + ((0 : Int)).toNat * 4) [(.int .i64 ((gt x0.fOuts (0 : Int)).fValue)), u, (.int .i64 ((gt x0.fOuts (0 : Int)).fRule.fNeed)), (.int .i64 ((gt x0.fOuts (0 : Int)).fRule.fAfter))] ∧ RdS kInt _ u ((gt x0.fOuts (0 : Int)).fRule.fKeys) := rd_with1 hp0_1 (or_t e5812 hg5816)
        refine ops_ex rfl (guard_on rfl rfl rfl hg5816) rfl rfl (ex_indexAddr (d := kOut) rfl rfl rfl Try.underlying26 tsz69 hp0_1 (idx_lo (or_t e5812 hg5816)) (idx_hi (or_t e5812 hg5816))) ?_
        refine ops_ex rfl (guard_on rfl rfl rfl hg5816) rfl rfl (ex_fieldAddr (off' := so p0_1 + ((0 : Int)).toNat * 4) rfl rfl Try.underlying69 rfl tsz2 rfl) ?_
        refine ops_ex rfl (guard_on rfl rfl rfl hg5816) rfl rfl (ex_load1 rfl rfl Try.underlying2 rfl ((HM.at_ hc5813) 0 _ rfl)) ?_
        refine ops_ex rfl (guard_on rfl rfl rfl hg5816) rfl rfl (ex_lss rfl rfl rfl) ?_
        refine ops_ex (v := .bool ((x0.fKind == 1) && (decide (((gt x0.fOuts (0 : Int)).fValue) < 100)))) rfl (guard_none rfl) rfl rfl (ex_pand_t rfl rfl hg5816 rfl) ?_
        refine ops_nil ?_
        exact at_meet [(49, .bool ((x0.fKind == 1) && (decide (((gt x0.fOuts (0 : Int)).fValue) < 100))))] ⟨rfl, HM⟩ (Sub.cons rfl Sub.nil)
      · skip
        refine ops_off rfl (guard_off rfl rfl rfl hg5816) rfl rfl ?_
        refine ops_off rfl (guard_off rfl rfl rfl hg5816) rfl rfl ?_
        refine ops_off rfl (guard_off rfl rfl rfl hg5816) rfl rfl ?_
        refine ops_off rfl (guard_off rfl rfl rfl hg5816) rfl rfl ?_
        refine ops_off rfl (guard_off rfl rfl rfl hg5816) rfl rfl ?_
        refine ops_off rfl (guard_off rfl rfl rfl hg5816) rfl rfl ?_
        refine ops_off rfl (guard_off rfl rfl rfl hg5816) rfl rfl ?_
        refine ops_off rfl (guard_off rfl rfl rfl hg5816) rfl rfl ?_
        have hg5817 : ((x0.fKind == 1) && (decide (((gt x0.fOuts (0 : Int)).fValue) < 100))) = false := by simp only [hg5816, Bool.and_true, Bool.true_and, Bool.and_false, Bool.false_and, Bool.or_true, Bool.true_or, Bool.or_false, Bool.false_or, Bool.not_true, Bool.not_false, Bool.not_not]
        refine ops_ex (v := .bool ((x0.fKind == 1) && (decide (((gt x0.fOuts (0 : Int)).fValue) < 100)))) rfl (guard_none rfl) rfl rfl (ex_pand_f rfl rfl hg5816) ?_
        refine ops_nil ?_
        exact at_meet [(49, .bool ((x0.fKind == 1) && (decide (((gt x0.fOuts (0 : Int)).fValue) < 100))))] ⟨rfl, HM⟩ (Sub.cons rfl Sub.nil)
    · rintro _ w5818 ⟨rfl, HM⟩
      refine at_then ?_
      refine run_cond (b := ((x0.fKind == 1) && (decide (((gt x0.fOuts (0 : Int)).fValue) < 100)))) rfl (fun hb5819 => ?_) (fun hb5819 => ?_)
      · replace H := cond_t hb5819 H
        refine run_seq ?_
        refine run_region rfl ?_
        refine ox rfl rfl rfl rfl (ex_assign rfl rfl) ?_
        refine ops_nil (at_then ?_)
        refine run_ret ?_
        refine at_then_ret ?_
        have hR := Option.some.inj H
        subst hR
        exact at_ret1 rfl rfl ⟨_, rfl, rfl, HM⟩
      · replace H := cond_f hb5819 H
        refine run_skip ?_
        refine at_then ?_
        refine run_seq ?_
        refine run_region rfl ?_
        refine ox rfl rfl rfl rfl (ex_assign rfl rfl) ?_
        refine ops_nil (at_then ?_)
        refine run_ret ?_
        have hR := Option.some.inj H
        subst hR
        exact at_ret1 rfl rfl ⟨_, rfl, rfl, HM⟩

def spec_l3Fault.l0 (x0 : Tx) : Nat → Int → Option (Int ⊕ Unit)
  | 0, _ => none
  | k + 1, a5940 => (bif (decide (a5940 < (x0.fIns.length : Int))) then (chk (idxOk a5940 x0.fIns.length) ((spec_l3Ref.f k (gt x0.fIns a5940)).bind fun t5971 => (bif !t5971 then some (.inl 3) else (chk (cutOk a5940 x0.fIns.length) (chk (idxOk a5940 x0.fIns.length) ((spec_l3Among.f k (x0.fIns.take (a5940).toNat) (gt x0.fIns a5940)).bind fun t5981 => (bif t5981 then some (.inl 7) else spec_l3Fault.l0 x0 k (wrap64 (a5940 + 1))))))))) else some (.inr ()))
theorem spec_l3Fault.l0_z (x0 : Tx) (a5940 : Int) : spec_l3Fault.l0 x0 0 a5940 = none := rfl
theorem spec_l3Fault.l0_s (x0 : Tx) (k : Nat) (a5940 : Int) : spec_l3Fault.l0 x0 (k + 1) a5940 = (bif (decide (a5940 < (x0.fIns.length : Int))) then (chk (idxOk a5940 x0.fIns.length) ((spec_l3Ref.f k (gt x0.fIns a5940)).bind fun t5971 => (bif !t5971 then some (.inl 3) else (chk (cutOk a5940 x0.fIns.length) (chk (idxOk a5940 x0.fIns.length) ((spec_l3Among.f k (x0.fIns.take (a5940).toNat) (gt x0.fIns a5940)).bind fun t5981 => (bif t5981 then some (.inl 7) else spec_l3Fault.l0 x0 k (wrap64 (a5940 + 1))))))))) else some (.inr ())) := rfl
def spec_l3Fault.f (k : Nat) (x0 : Tx) : Option Int := ((spec_l1In.f k x0.fKind 0 2).bind fun t5825 => (bif ((!t5825) || ((x0.fKind == 0) != (x0.fMember == 0))) then some 1 else ((bif (x0.fKind != 0) then spec_l1Key.f k x0.fMember else some default).bind fun t5835 => (bif ((x0.fKind != 0) && (!t5835)) then some 3 else ((spec_l1In.f k (x0.fIns.length : Int) 1 4).bind fun t5847 => ((bif (!(!t5847)) then spec_l1In.f k (x0.fOuts.length : Int) 1 4 else some default).bind fun t5849 => (bif ((!t5847) || (!t5849)) then some 2 else ((spec_l3Fault.l0 x0 k 0).bind fun o5918 => thn o5918 (fun r => some r) (fun _ => ((spec_l3Outs.f k x0).bind fun t5986 => some t5986))))))))))
theorem spec_l3Fault.calls {k : Nat} {x0 : Tx} {b0 f0 : Nat} {p0_0 : Value} {p0_1 : Value} {w : World} (hc0 : CellsAt w b0 f0 [.int .i64 x0.fKind, .int .i64 x0.fMember, p0_0, p0_1]) (hp0_0 : RdS kRef w p0_0 x0.fIns) (hp0_1 : RdS kOut w p0_1 x0.fOuts) {r : Int} (H : spec_l3Fault.f k x0 = some r) :
    Calls Try.prog 57 ([.pointer (some ⟨b0, f0, none⟩)] : List Value).toArray w (fun e w_ => ∃ v, e = .returned v ∧ v = (.int .i64 r) ∧ Mem w [] w_ []) := by
  have HM := Mem.start w
  refine calls_run (N := 86) Try.func57 rfl rfl rfl rfl ?_
  unfold spec_l3Fault.f at H
  refine run_seq ?_
  refine run_region rfl ?_
  refine ox rfl rfl rfl rfl (ex_assign rfl rfl) ?_
  refine ops_nil (at_then (run_seq ?_))
  refine run_seq ?_
  obtain ⟨t5825, h5826, H⟩ := bind_some H
  refine run_meet (fun ρ_ w_ => ρ_ = [(0, .pointer (some ⟨b0, f0, none⟩)), (22, .bool ((!t5825) || ((x0.fKind == 0) != (x0.fMember == 0))))] ∧ Mem w [] w_ []) ?_ ?_
  · skip
    refine run_drawf (fun w_ => Mem w [] w_ []) [(0, true), (1, true), (2, true), (3, true), (4, false), (5, true), (6, true), (7, true), (8, true), (9, true), (10, true), (11, true), (12, true), (13, true), (14, true), (15, true), (16, true), (17, true), (18, true)] mixed rfl rfl (by kernel_rfl) ?_
    replace HM := HM.grow (fr_drew _)
    have hS := Mem.suf (M := []) HM
    refine dp rfl rfl rfl rfl (ex_move rfl rfl) hS ?_
    refine dp rfl rfl rfl rfl (ex_nilCheck rfl rfl) hS ?_
    refine dp rfl rfl rfl rfl (ex_fieldAddr (off' := f0) rfl rfl Try.underlying28 rfl tsz2 rfl) hS ?_
    refine drwp_take rfl (guard_none rfl) rfl rfl (fun w_ hS_ => (ex_load1 rfl rfl Try.underlying2 rfl ((hS_.at_ hc0) 0 _ rfl))) hS ?_
    refine drwp_one rfl (guard_none rfl) rfl rfl (does_callk rfl callok58 rfl (spec_l1In.calls (x0 := x0.fKind) (x1 := 0) (x2 := 2) h5826)) ?_
    rintro _ w5827 ⟨rfl, hn⟩
    replace HM : Mem w [] w5827 [] := HM.call hn
    have hS := Mem.suf (M := []) HM
    refine ⟨hS, ?_⟩
    refine dp rfl rfl rfl rfl (ex_not rfl rfl) hS ?_
    refine dp rfl rfl rfl rfl (ex_move rfl rfl) hS ?_
    refine bool_cases (!t5825) (fun hg5828 => ?_) (fun hg5828 => ?_)
    · skip
      refine drwp_off rfl (guard_off rfl rfl rfl hg5828) rfl rfl hS ?_
      refine drwp_off rfl (guard_off rfl rfl rfl hg5828) rfl rfl hS ?_
      refine drwp_off rfl (guard_off rfl rfl rfl hg5828) rfl rfl hS ?_
      refine drwp_off rfl (guard_off rfl rfl rfl hg5828) rfl rfl hS ?_
      refine drwp_off rfl (guard_off rfl rfl rfl hg5828) rfl rfl hS ?_
      refine drwp_off rfl (guard_off rfl rfl rfl hg5828) rfl rfl hS ?_
      refine drwp_off rfl (guard_off rfl rfl rfl hg5828) rfl rfl hS ?_
      refine drwp_off rfl (guard_off rfl rfl rfl hg5828) rfl rfl hS ?_
      refine drwp_off rfl (guard_off rfl rfl rfl hg5828) rfl rfl hS ?_
      refine drwp_off rfl (guard_off rfl rfl rfl hg5828) rfl rfl hS ?_
      refine drwp_off rfl (guard_off rfl rfl rfl hg5828) rfl rfl hS ?_
      have hg5829 : ((!t5825) || ((x0.fKind == 0) != (x0.fMember == 0))) = true := by simp only [hg5828, Bool.and_true, Bool.true_and, Bool.and_false, Bool.false_and, Bool.or_true, Bool.true_or, Bool.or_false, Bool.false_or, Bool.not_true, Bool.not_false, Bool.not_not]
      refine drwp_take (v := .bool ((!t5825) || ((x0.fKind == 0) != (x0.fMember == 0)))) rfl (guard_none rfl) rfl rfl (fun w_ hS_ => (ex_por_t rfl rfl hg5828)) hS ?_
      refine drwp_done ?_
      exact at_meet [(0, .pointer (some ⟨b0, f0, none⟩)), (22, .bool ((!t5825) || ((x0.fKind == 0) != (x0.fMember == 0))))] ⟨rfl, HM⟩ (Sub.cons rfl (Sub.cons rfl Sub.nil))
    · skip
      refine drwp_take rfl (guard_on rfl rfl rfl hg5828) rfl rfl (fun w_ hS_ => (ex_move rfl rfl)) hS ?_
      refine drwp_take rfl (guard_on rfl rfl rfl hg5828) rfl rfl (fun w_ hS_ => (ex_nilCheck rfl rfl)) hS ?_
      refine drwp_take rfl (guard_on rfl rfl rfl hg5828) rfl rfl (fun w_ hS_ => (ex_fieldAddr (off' := f0) rfl rfl Try.underlying28 rfl tsz2 rfl)) hS ?_
      refine drwp_take rfl (guard_on rfl rfl rfl hg5828) rfl rfl (fun w_ hS_ => (ex_load1 rfl rfl Try.underlying2 rfl ((hS_.at_ hc0) 0 _ rfl))) hS ?_
      refine drwp_take rfl (guard_on rfl rfl rfl hg5828) rfl rfl (fun w_ hS_ => (ex_eql rfl rfl rfl)) hS ?_
      refine drwp_take rfl (guard_on rfl rfl rfl hg5828) rfl rfl (fun w_ hS_ => (ex_move rfl rfl)) hS ?_
      refine drwp_take rfl (guard_on rfl rfl rfl hg5828) rfl rfl (fun w_ hS_ => (ex_nilCheck rfl rfl)) hS ?_
      refine drwp_take rfl (guard_on rfl rfl rfl hg5828) rfl rfl (fun w_ hS_ => (ex_fieldAddr (off' := f0 + 1) rfl rfl Try.underlying28 rfl tsz2 rfl)) hS ?_
      refine drwp_take rfl (guard_on rfl rfl rfl hg5828) rfl rfl (fun w_ hS_ => (ex_load1 rfl rfl Try.underlying2 rfl ((hS_.at_ hc0) 1 _ rfl))) hS ?_
      refine drwp_take rfl (guard_on rfl rfl rfl hg5828) rfl rfl (fun w_ hS_ => (ex_eql rfl rfl rfl)) hS ?_
      refine drwp_take rfl (guard_on rfl rfl rfl hg5828) rfl rfl (fun w_ hS_ => (ex_bneq rfl rfl rfl Try.underlying4)) hS ?_
      refine drwp_take (v := .bool ((!t5825) || ((x0.fKind == 0) != (x0.fMember == 0)))) rfl (guard_none rfl) rfl rfl (fun w_ hS_ => (ex_por_f rfl rfl hg5828 rfl)) hS ?_
      refine drwp_done ?_
      exact at_meet [(0, .pointer (some ⟨b0, f0, none⟩)), (22, .bool ((!t5825) || ((x0.fKind == 0) != (x0.fMember == 0))))] ⟨rfl, HM⟩ (Sub.cons rfl (Sub.cons rfl Sub.nil))
  · rintro _ w5830 ⟨rfl, HM⟩
    refine at_then ?_
    refine run_cond (b := ((!t5825) || ((x0.fKind == 0) != (x0.fMember == 0)))) rfl (fun hb5831 => ?_) (fun hb5831 => ?_)
    · replace H := cond_t hb5831 H
      refine run_seq ?_
      refine run_region rfl ?_
      refine ox rfl rfl rfl rfl (ex_assign rfl rfl) ?_
      refine ops_nil (at_then ?_)
      refine run_ret ?_
      refine at_then_ret ?_
      have hR := Option.some.inj H
      subst hR
      exact at_ret1 rfl rfl ⟨_, rfl, rfl, HM⟩
    · replace H := cond_f hb5831 H
      refine run_skip ?_
      refine at_then ?_
      refine run_seq ?_
      refine run_seq ?_
      obtain ⟨t5835, h5836, H⟩ := bind_some H
      refine run_meet (fun ρ_ w_ => ρ_ = [(0, .pointer (some ⟨b0, f0, none⟩)), (35, .bool ((x0.fKind != 0) && (!t5835)))] ∧ Mem w [] w_ []) ?_ ?_
      · skip
        refine run_region rfl ?_
        refine ox rfl rfl rfl rfl (ex_move rfl rfl) ?_
        refine ox rfl rfl rfl rfl (ex_nilCheck rfl rfl) ?_
        refine ox rfl rfl rfl rfl (ex_fieldAddr (off' := f0) rfl rfl Try.underlying28 rfl tsz2 rfl) ?_
        refine ox rfl rfl rfl rfl (ex_load1 rfl rfl Try.underlying2 rfl ((HM.at_ hc0) 0 _ rfl)) ?_
        refine ox rfl rfl rfl rfl (ex_neq rfl rfl rfl) ?_
        refine ox rfl rfl rfl rfl (ex_move rfl rfl) ?_
        refine bool_cases (x0.fKind != 0) (fun hg5837 => ?_) (fun hg5837 => ?_)
        · skip
          refine ops_ex rfl (guard_on rfl rfl rfl hg5837) rfl rfl (ex_move rfl rfl) ?_
          refine ops_ex rfl (guard_on rfl rfl rfl hg5837) rfl rfl (ex_nilCheck rfl rfl) ?_
          refine ops_ex rfl (guard_on rfl rfl rfl hg5837) rfl rfl (ex_fieldAddr (off' := f0 + 1) rfl rfl Try.underlying28 rfl tsz2 rfl) ?_
          refine ops_ex rfl (guard_on rfl rfl rfl hg5837) rfl rfl (ex_load1 rfl rfl Try.underlying2 rfl ((HM.at_ hc0) 1 _ rfl)) ?_
          refine ops_does rfl (guard_on rfl rfl rfl hg5837) rfl rfl (does_callk rfl callok116 rfl (spec_l1Key.calls (x0 := x0.fMember) (cond_t hg5837 h5836))) ?_
          rintro _ w5838 ⟨rfl, hn⟩
          replace HM : Mem w [] w5838 [] := HM.call hn
          refine ops_ex rfl (guard_on rfl rfl rfl hg5837) rfl rfl (ex_not rfl rfl) ?_
          refine ops_ex (v := .bool ((x0.fKind != 0) && (!t5835))) rfl (guard_none rfl) rfl rfl (ex_pand_t rfl rfl hg5837 rfl) ?_
          refine ops_nil ?_
          exact at_meet [(0, .pointer (some ⟨b0, f0, none⟩)), (35, .bool ((x0.fKind != 0) && (!t5835)))] ⟨rfl, HM⟩ (Sub.cons rfl (Sub.cons rfl Sub.nil))
        · skip
          refine ops_off rfl (guard_off rfl rfl rfl hg5837) rfl rfl ?_
          refine ops_off rfl (guard_off rfl rfl rfl hg5837) rfl rfl ?_
          refine ops_off rfl (guard_off rfl rfl rfl hg5837) rfl rfl ?_
          refine ops_off rfl (guard_off rfl rfl rfl hg5837) rfl rfl ?_
          refine ops_off rfl (guard_off rfl rfl rfl hg5837) rfl rfl ?_
          refine ops_off rfl (guard_off rfl rfl rfl hg5837) rfl rfl ?_
          have hg5839 : ((x0.fKind != 0) && (!t5835)) = false := by simp only [hg5837, Bool.and_true, Bool.true_and, Bool.and_false, Bool.false_and, Bool.or_true, Bool.true_or, Bool.or_false, Bool.false_or, Bool.not_true, Bool.not_false, Bool.not_not]
          refine ops_ex (v := .bool ((x0.fKind != 0) && (!t5835))) rfl (guard_none rfl) rfl rfl (ex_pand_f rfl rfl hg5837) ?_
          refine ops_nil ?_
          exact at_meet [(0, .pointer (some ⟨b0, f0, none⟩)), (35, .bool ((x0.fKind != 0) && (!t5835)))] ⟨rfl, HM⟩ (Sub.cons rfl (Sub.cons rfl Sub.nil))
      · rintro _ w5840 ⟨rfl, HM⟩
        refine at_then ?_
        refine run_cond (b := ((x0.fKind != 0) && (!t5835))) rfl (fun hb5841 => ?_) (fun hb5841 => ?_)
        · replace H := cond_t hb5841 H
          refine run_seq ?_
          refine run_region rfl ?_
          refine ox rfl rfl rfl rfl (ex_assign rfl rfl) ?_
          refine ops_nil (at_then ?_)
          refine run_ret ?_
          refine at_then_ret ?_
          have hR := Option.some.inj H
          subst hR
          exact at_ret1 rfl rfl ⟨_, rfl, rfl, HM⟩
        · replace H := cond_f hb5841 H
          refine run_skip ?_
          refine at_then ?_
          refine run_seq ?_
          refine run_seq ?_
          obtain ⟨t5847, h5848, H⟩ := bind_some H
          obtain ⟨t5849, h5850, H⟩ := bind_some H
          refine run_meet (fun ρ_ w_ => ρ_ = [(0, .pointer (some ⟨b0, f0, none⟩)), (51, .bool ((!t5847) || (!t5849)))] ∧ Mem w [] w_ []) ?_ ?_
          · skip
            refine run_region rfl ?_
            refine ox rfl rfl rfl rfl (ex_move rfl rfl) ?_
            refine ox rfl rfl rfl rfl (ex_nilCheck rfl rfl) ?_
            refine ox rfl rfl rfl rfl (ex_fieldAddr (off' := f0 + 2) rfl rfl Try.underlying28 rfl tsz25 rfl) ?_
            refine ox rfl rfl rfl rfl (ex_load1 rfl rfl Try.underlying25 rfl ((HM.at_ hc0) 2 _ rfl)) ?_
            refine ox rfl rfl rfl rfl (ex_len (d := kRef) (xs := x0.fIns) rfl rfl Try.underlying25 hp0_0) ?_
            refine od rfl rfl rfl rfl (does_callk rfl callok58 rfl (spec_l1In.calls (x0 := (x0.fIns.length : Int)) (x1 := 1) (x2 := 4) h5848)) ?_
            rintro _ w5851 ⟨rfl, hn⟩
            replace HM : Mem w [] w5851 [] := HM.call hn
            refine ox rfl rfl rfl rfl (ex_not rfl rfl) ?_
            refine ox rfl rfl rfl rfl (ex_move rfl rfl) ?_
            refine bool_cases (!t5847) (fun hg5852 => ?_) (fun hg5852 => ?_)
            · skip
              refine ops_off rfl (guard_off rfl rfl rfl hg5852) rfl rfl ?_
              refine ops_off rfl (guard_off rfl rfl rfl hg5852) rfl rfl ?_
              refine ops_off rfl (guard_off rfl rfl rfl hg5852) rfl rfl ?_
              refine ops_off rfl (guard_off rfl rfl rfl hg5852) rfl rfl ?_
              refine ops_off rfl (guard_off rfl rfl rfl hg5852) rfl rfl ?_
              refine ops_off rfl (guard_off rfl rfl rfl hg5852) rfl rfl ?_
              refine ops_off rfl (guard_off rfl rfl rfl hg5852) rfl rfl ?_
              have hg5853 : ((!t5847) || (!t5849)) = true := by simp only [hg5852, Bool.and_true, Bool.true_and, Bool.and_false, Bool.false_and, Bool.or_true, Bool.true_or, Bool.or_false, Bool.false_or, Bool.not_true, Bool.not_false, Bool.not_not]
              refine ops_ex (v := .bool ((!t5847) || (!t5849))) rfl (guard_none rfl) rfl rfl (ex_por_t rfl rfl hg5852) ?_
              refine ops_nil ?_
              exact at_meet [(0, .pointer (some ⟨b0, f0, none⟩)), (51, .bool ((!t5847) || (!t5849)))] ⟨rfl, HM⟩ (Sub.cons rfl (Sub.cons rfl Sub.nil))
            · skip
              refine ops_ex rfl (guard_on rfl rfl rfl hg5852) rfl rfl (ex_move rfl rfl) ?_
              refine ops_ex rfl (guard_on rfl rfl rfl hg5852) rfl rfl (ex_nilCheck rfl rfl) ?_
              refine ops_ex rfl (guard_on rfl rfl rfl hg5852) rfl rfl (ex_fieldAddr (off' := f0 + 3) rfl rfl Try.underlying28 rfl tsz26 rfl) ?_
              refine ops_ex rfl (guard_on rfl rfl rfl hg5852) rfl rfl (ex_load1 rfl rfl Try.underlying26 rfl ((HM.at_ hc0) 3 _ rfl)) ?_
              refine ops_ex rfl (guard_on rfl rfl rfl hg5852) rfl rfl (ex_len (d := kOut) (xs := x0.fOuts) rfl rfl Try.underlying26 hp0_1) ?_
              refine ops_does rfl (guard_on rfl rfl rfl hg5852) rfl rfl (does_callk rfl callok58 rfl (spec_l1In.calls (x0 := (x0.fOuts.length : Int)) (x1 := 1) (x2 := 4) (cond_t (not_mk hg5852) h5850))) ?_
              rintro _ w5854 ⟨rfl, hn⟩
              replace HM : Mem w [] w5854 [] := HM.call hn
              refine ops_ex rfl (guard_on rfl rfl rfl hg5852) rfl rfl (ex_not rfl rfl) ?_
              refine ops_ex (v := .bool ((!t5847) || (!t5849))) rfl (guard_none rfl) rfl rfl (ex_por_f rfl rfl hg5852 rfl) ?_
              refine ops_nil ?_
              exact at_meet [(0, .pointer (some ⟨b0, f0, none⟩)), (51, .bool ((!t5847) || (!t5849)))] ⟨rfl, HM⟩ (Sub.cons rfl (Sub.cons rfl Sub.nil))
          · rintro _ w5855 ⟨rfl, HM⟩
            refine at_then ?_
            refine run_cond (b := ((!t5847) || (!t5849))) rfl (fun hb5856 => ?_) (fun hb5856 => ?_)
            · replace H := cond_t hb5856 H
              refine run_seq ?_
              refine run_region rfl ?_
              refine ox rfl rfl rfl rfl (ex_assign rfl rfl) ?_
              refine ops_nil (at_then ?_)
              refine run_ret ?_
              refine at_then_ret ?_
              have hR := Option.some.inj H
              subst hR
              exact at_ret1 rfl rfl ⟨_, rfl, rfl, HM⟩
            · replace H := cond_f hb5856 H
              refine run_skip ?_
              refine at_then ?_
              obtain ⟨o5918, ho5919, H⟩ := bind_some H
              refine run_mid (fun ρ_ w_ => Sum.inr () = o5918 ∧ ρ_ = [(0, .pointer (some ⟨b0, f0, none⟩))] ∧ Mem w [] w_ []) ?_ ?_
              · skip
                refine run_seq ?_
                refine run_region rfl ?_
                refine ox rfl rfl rfl rfl (ex_assign rfl rfl) ?_
                refine ops_nil (at_then ?_)
                refine run_block ?_
                refine run_loop (fun k_ ρ_ w_ => ∃ a5940 : Int, spec_l3Fault.l0 x0 k_ a5940 = some o5918 ∧ ρ_ = [(0, .pointer (some ⟨b0, f0, none⟩)), (3, .int .i64 a5940)] ∧ Mem w [] w_ []) k (ρ1 := [(0, .pointer (some ⟨b0, f0, none⟩)), (3, .int .i64 0)]) ⟨_, ho5919, rfl, HM⟩ (Sub.cons rfl (Sub.cons rfl Sub.nil)) ?_
                clear HM ho5919
                rintro k5961 _ w5962 ⟨a5940, ho5919, rfl, HM⟩
                obtain _ | k5961 := k5961
                · exact nomatch ((spec_l3Fault.l0_z x0 a5940).symm.trans ho5919)
                replace ho5919 := (spec_l3Fault.l0_s x0 k5961 a5940).symm.trans ho5919
                refine run_seq ?_
                refine run_seq ?_
                refine run_region rfl ?_
                refine ox rfl rfl rfl rfl (ex_move rfl rfl) ?_
                refine ox rfl rfl rfl rfl (ex_move rfl rfl) ?_
                refine ox rfl rfl rfl rfl (ex_nilCheck rfl rfl) ?_
                refine ox rfl rfl rfl rfl (ex_fieldAddr (off' := f0 + 2) rfl rfl Try.underlying28 rfl tsz25 rfl) ?_
                refine ox rfl rfl rfl rfl (ex_load1 rfl rfl Try.underlying25 rfl ((HM.at_ hc0) 2 _ rfl)) ?_
                refine ox rfl rfl rfl rfl (ex_len (d := kRef) (xs := x0.fIns) rfl rfl Try.underlying25 hp0_0) ?_
                refine ox rfl rfl rfl rfl (ex_lss rfl rfl rfl) ?_
                refine ops_nil (at_then ?_)
                refine run_cond (b := (decide (a5940 < (x0.fIns.length : Int)))) rfl (fun hb5963 => ?_) (fun hb5963 => ?_)
                · replace ho5919 := cond_t hb5963 ho5919
                  refine run_skip ?_
                  refine at_then ?_
                  refine run_seq ?_
                  refine run_block ?_
                  refine run_seq ?_
                  refine run_seq ?_
                  obtain ⟨e5969, ho5919⟩ := chk_some ho5919
                  obtain ⟨t5971, h5972, ho5919⟩ := bind_some ho5919
                  refine run_region rfl ?_
                  refine ox rfl rfl rfl rfl (ex_move rfl rfl) ?_
                  refine ox rfl rfl rfl rfl (ex_nilCheck rfl rfl) ?_
                  refine ox rfl rfl rfl rfl (ex_fieldAddr (off' := f0 + 2) rfl rfl Try.underlying28 rfl tsz25 rfl) ?_
                  refine ox rfl rfl rfl rfl (ex_load1 rfl rfl Try.underlying25 rfl ((HM.at_ hc0) 2 _ rfl)) ?_
                  refine ox rfl rfl rfl rfl (ex_move rfl rfl) ?_
                  have hc5970 : CellsAt _ (sb p0_0) (so p0_0 + (a5940).toNat * 2) [(.int .i64 ((gt x0.fIns a5940).fTx)), (.int .i64 ((gt x0.fIns a5940).fAt))] := rd_plain hp0_0 e5969
                  refine ox rfl rfl rfl rfl (ex_indexAddr (d := kRef) rfl rfl rfl Try.underlying25 tsz36 hp0_0 (idx_lo e5969) (idx_hi e5969)) ?_
                  refine ox rfl rfl rfl rfl (ex_loadN (cs := [(.int .i64 ((gt x0.fIns a5940).fTx)), (.int .i64 ((gt x0.fIns a5940).fAt))]) rfl rfl Try.underlying36 rfl tsz36 rfl ((HM.at_ hc5970).sub 0 2 rfl)) ?_
                  refine od rfl rfl rfl rfl (does_callk rfl callok117 rfl (spec_l3Ref.calls (x0 := (gt x0.fIns a5940)) h5972)) ?_
                  rintro _ w5973 ⟨rfl, hn⟩
                  replace HM : Mem w [] w5973 [] := HM.call hn
                  refine ox rfl rfl rfl rfl (ex_not rfl rfl) ?_
                  refine ops_nil (at_then ?_)
                  refine run_cond (b := !t5971) rfl (fun hb5974 => ?_) (fun hb5974 => ?_)
                  · replace ho5919 := cond_t hb5974 ho5919
                    refine run_seq ?_
                    refine run_region rfl ?_
                    refine ox rfl rfl rfl rfl (ex_assign rfl rfl) ?_
                    refine ops_nil (at_then ?_)
                    refine run_ret ?_
                    refine at_then_ret ?_
                    refine at_block_ret ?_
                    refine at_then_ret ?_
                    refine at_then_ret ?_
                    refine at_block_ret ?_
                    refine at_then_ret ?_
                    have hR := Option.some.inj ho5919
                    subst hR
                    have hT := thn_inl H
                    have hR := Option.some.inj hT
                    subst hR
                    exact at_ret1 rfl rfl ⟨_, rfl, rfl, HM⟩
                  · replace ho5919 := cond_f hb5974 ho5919
                    refine run_skip ?_
                    refine at_then ?_
                    refine run_seq ?_
                    obtain ⟨e5975, ho5919⟩ := chk_some ho5919
                    obtain ⟨e5979, ho5919⟩ := chk_some ho5919
                    obtain ⟨t5981, h5982, ho5919⟩ := bind_some ho5919
                    refine run_drawf (fun w_ => Mem w [] w_ []) [(0, true), (1, true), (2, true), (3, true), (4, true), (5, true), (6, true), (7, true), (8, true), (9, true), (10, true), (11, true), (12, true), (13, false)] mixed rfl rfl (by kernel_rfl) ?_
                    replace HM := HM.grow (fr_drew _)
                    have hS := Mem.suf (M := []) HM
                    refine dp rfl rfl rfl rfl (ex_move rfl rfl) hS ?_
                    refine dp rfl rfl rfl rfl (ex_nilCheck rfl rfl) hS ?_
                    refine dp rfl rfl rfl rfl (ex_fieldAddr (off' := f0 + 2) rfl rfl Try.underlying28 rfl tsz25 rfl) hS ?_
                    refine drwp_take rfl (guard_none rfl) rfl rfl (fun w_ hS_ => (ex_load1 rfl rfl Try.underlying25 rfl ((hS_.at_ hc0) 2 _ rfl))) hS ?_
                    refine dp rfl rfl rfl rfl (ex_move rfl rfl) hS ?_
                    refine drwp_takeE rfl (guard_none rfl) rfl rfl (ex_cutH kRef rfl rfl rfl Try.underlying25 tsz36 hp0_0 e5975) hS ?_
                    rintro u5976 hr5978
                    refine dp rfl rfl rfl rfl (ex_move rfl rfl) hS ?_
                    refine dp rfl rfl rfl rfl (ex_nilCheck rfl rfl) hS ?_
                    refine dp rfl rfl rfl rfl (ex_fieldAddr (off' := f0 + 2) rfl rfl Try.underlying28 rfl tsz25 rfl) hS ?_
                    refine drwp_take rfl (guard_none rfl) rfl rfl (fun w_ hS_ => (ex_load1 rfl rfl Try.underlying25 rfl ((hS_.at_ hc0) 2 _ rfl))) hS ?_
                    refine dp rfl rfl rfl rfl (ex_move rfl rfl) hS ?_
                    have hc5980 : CellsAt _ (sb p0_0) (so p0_0 + (a5940).toNat * 2) [(.int .i64 ((gt x0.fIns a5940).fTx)), (.int .i64 ((gt x0.fIns a5940).fAt))] := rd_plain hp0_0 e5979
                    refine dp rfl rfl rfl rfl (ex_indexAddr (d := kRef) rfl rfl rfl Try.underlying25 tsz36 hp0_0 (idx_lo e5979) (idx_hi e5979)) hS ?_
                    refine drwp_take rfl (guard_none rfl) rfl rfl (fun w_ hS_ => (ex_loadN (cs := [(.int .i64 ((gt x0.fIns a5940).fTx)), (.int .i64 ((gt x0.fIns a5940).fAt))]) rfl rfl Try.underlying36 rfl tsz36 rfl ((hS_.at_ hc5980).sub 0 2 rfl))) hS ?_
                    refine drwp_one rfl (guard_none rfl) rfl rfl (does_callk rfl callok104 rfl (spec_l3Among.calls (x0 := x0.fIns.take (a5940).toNat) (x1 := (gt x0.fIns a5940)) (HM.rd hr5978) h5982)) ?_
                    rintro _ w5983 ⟨rfl, hn⟩
                    replace HM : Mem w [] w5983 [] := HM.call hn
                    have hS := Mem.suf (M := []) HM
                    refine ⟨hS, ?_⟩
                    refine drwp_done ?_
                    refine at_then ?_
                    refine run_cond (b := t5981) rfl (fun hb5984 => ?_) (fun hb5984 => ?_)
                    · replace ho5919 := cond_t hb5984 ho5919
                      refine run_seq ?_
                      refine run_region rfl ?_
                      refine ox rfl rfl rfl rfl (ex_assign rfl rfl) ?_
                      refine ops_nil (at_then ?_)
                      refine run_ret ?_
                      refine at_block_ret ?_
                      refine at_then_ret ?_
                      refine at_then_ret ?_
                      refine at_block_ret ?_
                      refine at_then_ret ?_
                      have hR := Option.some.inj ho5919
                      subst hR
                      have hT := thn_inl H
                      have hR := Option.some.inj hT
                      subst hR
                      exact at_ret1 rfl rfl ⟨_, rfl, rfl, HM⟩
                    · replace ho5919 := cond_f hb5984 ho5919
                      refine run_skip ?_
                      refine at_block ?_
                      refine at_then ?_
                      refine run_region rfl ?_
                      refine ox rfl rfl rfl rfl (ex_move rfl rfl) ?_
                      refine ox rfl rfl rfl rfl (ex_add rfl rfl rfl) ?_
                      refine ox rfl rfl rfl rfl (ex_assign rfl rfl) ?_
                      refine ops_nil ?_
                      exact at_again k5961 (ρ1 := [(0, .pointer (some ⟨b0, f0, none⟩)), (3, .int .i64 (wrap64 (a5940 + 1)))]) (Nat.lt_succ_self _) ⟨_, ho5919, rfl, HM⟩ (Sub.cons rfl (Sub.cons rfl Sub.nil))
                · replace ho5919 := cond_f hb5963 ho5919
                  refine run_exit ?_
                  refine at_then_exit ?_
                  refine at_then_exit ?_
                  refine at_block_exit ?_
                  exact at_mid (ρ' := [(0, .pointer (some ⟨b0, f0, none⟩))]) ⟨(Option.some.inj ho5919), rfl, HM⟩ (Sub.cons rfl Sub.nil)
              · rintro _ w5985 ⟨rfl, rfl, HM⟩
                replace H := (thn_inr H)
                refine run_seq ?_
                obtain ⟨t5986, h5987, H⟩ := bind_some H
                refine run_region rfl ?_
                refine ox rfl rfl rfl rfl (ex_move rfl rfl) ?_
                refine od rfl rfl rfl rfl (does_callk rfl callok118 rfl (spec_l3Outs.calls (x0 := x0) (HM.at_ hc0) (HM.rd hp0_0) (HM.rd hp0_1) h5987)) ?_
                rintro _ w5988 ⟨rfl, hn⟩
                replace HM : Mem w [] w5988 [] := HM.call hn
                refine ox rfl rfl rfl rfl (ex_assign rfl rfl) ?_
                refine ops_nil (at_then ?_)
                refine run_ret ?_
                have hR := Option.some.inj H
                subst hR
                exact at_ret1 rfl rfl ⟨_, rfl, rfl, HM⟩
end Go.Proofs.Ytbbcabpnkdilgaa.Zk
