/- What functions of the program compute, each as a plain function, and that they do. Conditions: as each theorem states them. -/
import Derived.Test.YtpfaihnmonfkhaaGreatDoorCheckTxZkF7
namespace Go.Proofs.YtpfaihnmonfkhaaGreatDoor.Zk
open Go Go.RowKit Go.IntWalk Go.Proofs
set_option linter.unusedVariables false
set_option linter.unusedSimpArgs false
set_option maxRecDepth 100000
set_option maxHeartbeats 4000000
def impl_TxFault_1.f (k : Nat) (x0 : Int) : Option Bool := some ((decide (x0 < 1)) || (decide (4 < x0)))
theorem impl_TxFault_1.calls {k : Nat} {x0 : Int}  {w : World}  {r : Bool} (H : impl_TxFault_1.f k x0 = some r) :
  Calls Tryz.prog 70 ([.int .i64 x0] : List Value).toArray w (fun e w_ => ∃ v, e = .returned v ∧ v = (.bool r) ∧ Mem w [] w_ []) := by
 have HM := Mem.start w
 refine calls_run (N := 9) Tryz.func70 rfl rfl rfl rfl ?_
 unfold impl_TxFault_1.f at H
 refine run_seq ?_
 refine run_region rfl ?_
 refine ox rfl rfl rfl rfl (ex_assign rfl rfl) ?_
 refine ops_nil (at_then (run_seq ?_))
 refine run_meet (fun ρ_ w_ => ρ_ = [(2, .bool ((decide (x0 < 1)) || (decide (4 < x0))))] ∧ Mem w [] w_ []) ?_ ?_
 ·skip
  refine run_region rfl ?_
  refine ox rfl rfl rfl rfl (ex_move rfl rfl) ?_
  refine ox rfl rfl rfl rfl (ex_lss rfl rfl rfl) ?_
  refine ox rfl rfl rfl rfl (ex_move rfl rfl) ?_
  refine bool_cases (decide (x0 < 1)) (fun hg6092 => ?_) (fun hg6092 => ?_)
  ·skip
   refine ops_off rfl (guard_off rfl rfl rfl hg6092) rfl rfl ?_
   refine ops_off rfl (guard_off rfl rfl rfl hg6092) rfl rfl ?_
   have hg6093 : ((decide (x0 < 1)) || (decide (4 < x0))) = true := by simp only [hg6092, Bool.and_true, Bool.true_and, Bool.and_false, Bool.false_and, Bool.or_true, Bool.true_or, Bool.or_false, Bool.false_or, Bool.not_true, Bool.not_false, Bool.not_not]
   refine ops_ex (v := .bool ((decide (x0 < 1)) || (decide (4 < x0)))) rfl (guard_none rfl) rfl rfl (ex_por_t rfl rfl hg6092) ?_
   refine ox rfl rfl rfl rfl (ex_assign rfl rfl) ?_
   refine ops_nil ?_
   exact at_meet [(2, .bool ((decide (x0 < 1)) || (decide (4 < x0))))] ⟨rfl, HM⟩ (Sub.cons rfl Sub.nil)
  ·skip
   refine ops_ex rfl (guard_on rfl rfl rfl hg6092) rfl rfl (ex_move rfl rfl) ?_
   refine ops_ex rfl (guard_on rfl rfl rfl hg6092) rfl rfl (ex_gtr rfl rfl rfl) ?_
   refine ops_ex (v := .bool ((decide (x0 < 1)) || (decide (4 < x0)))) rfl (guard_none rfl) rfl rfl (ex_por_f rfl rfl hg6092 rfl) ?_
   refine ox rfl rfl rfl rfl (ex_assign rfl rfl) ?_
   refine ops_nil ?_
   exact at_meet [(2, .bool ((decide (x0 < 1)) || (decide (4 < x0))))] ⟨rfl, HM⟩ (Sub.cons rfl Sub.nil)
 ·rintro _ w6094 ⟨rfl, HM⟩
  refine at_then ?_
  refine run_ret ?_
  have hR := Option.some.inj H
  subst hR
  exact at_ret1 rfl rfl ⟨_, rfl, rfl, HM⟩

def slices_Index_impl_Ref.l0 (x0 : List Ref) (x1 : Ref) : Nat → Int → Option (Int ⊕ Unit)
 | 0, _ => none
 | k + 1, a6171 => (bif (decide (a6171 < (x0.length : Int))) then (chk (idxOk a6171 x0.length) (bif ((x1.fTx == ((gt x0 a6171).fTx)) && (x1.fAt == ((gt x0 a6171).fAt))) then some (.inl a6171) else slices_Index_impl_Ref.l0 x0 x1 k (wrap64 (a6171 + 1)))) else some (.inr ()))
theorem slices_Index_impl_Ref.l0_z (x0 : List Ref) (x1 : Ref) (a6171 : Int) : slices_Index_impl_Ref.l0 x0 x1 0 a6171 = none := rfl
theorem slices_Index_impl_Ref.l0_s (x0 : List Ref) (x1 : Ref) (k : Nat) (a6171 : Int) : slices_Index_impl_Ref.l0 x0 x1 (k + 1) a6171 = (bif (decide (a6171 < (x0.length : Int))) then (chk (idxOk a6171 x0.length) (bif ((x1.fTx == ((gt x0 a6171).fTx)) && (x1.fAt == ((gt x0 a6171).fAt))) then some (.inl a6171) else slices_Index_impl_Ref.l0 x0 x1 k (wrap64 (a6171 + 1)))) else some (.inr ())) := rfl
def slices_Index_impl_Ref.f (k : Nat) (x0 : List Ref) (x1 : Ref) : Option Int := ((slices_Index_impl_Ref.l0 x0 x1 k 0).bind fun o6165 => thn o6165 (fun r => some r) (fun _ => some (-1)))
theorem slices_Index_impl_Ref.calls {k : Nat} {x0 : List Ref} {x1 : Ref} {p0 : Value} {w : World} (hp0 : RdS kRef w p0 x0) {r : Int} (H : slices_Index_impl_Ref.f k x0 x1 = some r) :
  Calls Tryz.prog 98 ([p0, .agg #[(.int .i64 x1.fTx), (.int .i64 x1.fAt)]] : List Value).toArray w (fun e w_ => ∃ v, e = .returned v ∧ v = (.int .i64 r) ∧ Mem w [] w_ []) := by
 have HM := Mem.start w
 refine calls_run (N := 19) Tryz.func98 rfl rfl rfl rfl ?_
 unfold slices_Index_impl_Ref.f at H
 refine run_seq ?_
 refine run_region rfl ?_
 refine od rfl rfl rfl rfl (does_box (cs := [.int .i64 x1.fTx, .int .i64 x1.fAt]) rfl rfl rfl HM) ?_
 rintro _ w6151 ⟨b6148, rfl, HM⟩
 refine ox rfl rfl rfl rfl (ex_assign rfl rfl) ?_
 refine ops_nil (at_then ?_)
 obtain ⟨o6165, ho6166, H⟩ := bind_some H
 refine run_mid (fun ρ_ w_ => Sum.inr () = o6165 ∧ ρ_ = [] ∧ Mem w [] w_ []) ?_ ?_
 ·skip
  refine run_seq ?_
  refine run_region rfl ?_
  refine ox rfl rfl rfl rfl (ex_move rfl rfl) ?_
  refine ox rfl rfl rfl rfl (ex_len (d := kRef) (xs := x0) rfl rfl Tryz.underlying43 hp0) ?_
  refine ox rfl rfl rfl rfl (ex_move rfl rfl) ?_
  refine ops_nil (at_then ?_)
  refine run_block ?_
  refine run_loop (fun k_ ρ_ w_ => ∃ a6171 : Int, slices_Index_impl_Ref.l0 x0 x1 k_ a6171 = some o6165 ∧ ρ_ = [(0, p0), (3, .pointer (some ⟨b6148, 0, none⟩)), (7, .int .i64 (x0.length : Int)), (8, .int .i64 a6171)] ∧ Mem w [] w_ [box b6148 81 [.int .i64 x1.fTx, .int .i64 x1.fAt]]) k (ρ1 := [(0, p0), (3, .pointer (some ⟨b6148, 0, none⟩)), (7, .int .i64 (x0.length : Int)), (8, .int .i64 0)]) ⟨_, ho6166, rfl, HM⟩ (Sub.cons rfl (Sub.cons rfl (Sub.cons rfl (Sub.cons rfl Sub.nil)))) ?_
  clear HM ho6166
  rintro k6176 _ w6177 ⟨a6171, ho6166, rfl, HM⟩
  obtain _ | k6176 := k6176
  ·exact nomatch ((slices_Index_impl_Ref.l0_z x0 x1 a6171).symm.trans ho6166)
  replace ho6166 := (slices_Index_impl_Ref.l0_s x0 x1 k6176 a6171).symm.trans ho6166
  refine run_seq ?_
  refine run_region rfl ?_
  refine ox rfl rfl rfl rfl (ex_lss rfl rfl rfl) ?_
  refine ops_nil (at_then (run_seq ?_))
  refine run_cond (b := (decide (a6171 < (x0.length : Int)))) rfl (fun hb6178 => ?_) (fun hb6178 => ?_)
  ·replace ho6166 := cond_t hb6178 ho6166
   refine run_skip ?_
   refine at_then ?_
   refine run_seq ?_
   refine run_block ?_
   refine run_seq ?_
   refine run_region rfl ?_
   refine ox rfl rfl rfl rfl (ex_move rfl rfl) ?_
   refine ox rfl rfl rfl rfl (ex_assign rfl rfl) ?_
   refine ops_nil (at_then (run_seq ?_))
   obtain ⟨e6179, ho6166⟩ := chk_some ho6166
   refine run_drawf (fun w_ => Mem w [] w_ [box b6148 81 [.int .i64 x1.fTx, .int .i64 x1.fAt]]) [(0, true), (1, true), (2, true), (3, true), (4, true), (5, true)] mixed rfl rfl (by kernel_rfl) ?_
   replace HM := HM.grow (fr_drew _)
   have hS := Mem.suf (M := []) HM
   refine drwp_take rfl (guard_none rfl) rfl rfl (fun w_ hS_ => (ex_loadN (cs := [(.int .i64 x1.fTx), (.int .i64 x1.fAt)]) rfl rfl Tryz.underlying81 rfl tsz81 rfl ((hS_.box_at 0 rfl).sub 0 2 rfl))) hS ?_
   refine dp rfl rfl rfl rfl (ex_move rfl rfl) hS ?_
   refine dp rfl rfl rfl rfl (ex_move rfl rfl) hS ?_
   have hc6180 : CellsAt _ (sb p0) (so p0 + (a6171).toNat * 2) [(.int .i64 ((gt x0 a6171).fTx)), (.int .i64 ((gt x0 a6171).fAt))] := rd_plain hp0 e6179
   refine dp rfl rfl rfl rfl (ex_indexAddr (d := kRef) rfl rfl rfl Tryz.underlying43 tsz81 hp0 (idx_lo e6179) (idx_hi e6179)) hS ?_
   refine drwp_take rfl (guard_none rfl) rfl rfl (fun w_ hS_ => (ex_loadN (cs := [(.int .i64 ((gt x0 a6171).fTx)), (.int .i64 ((gt x0 a6171).fAt))]) rfl rfl Tryz.underlying81 rfl tsz81 rfl ((hS_.at_ hc6180).sub 0 2 rfl))) hS ?_
   refine dp rfl rfl rfl rfl (ex_aeql rfl rfl rfl (by kernel_rfl) (eqs81 _ _ _ _ _)) hS ?_
   refine drwp_done ?_
   refine at_then ?_
   refine run_cond (b := ((x1.fTx == ((gt x0 a6171).fTx)) && (x1.fAt == ((gt x0 a6171).fAt)))) rfl (fun hb6181 => ?_) (fun hb6181 => ?_)
   ·replace ho6166 := cond_t hb6181 ho6166
    refine run_seq ?_
    refine run_region rfl ?_
    refine ox rfl rfl rfl rfl (ex_move rfl rfl) ?_
    refine ox rfl rfl rfl rfl (ex_assign rfl rfl) ?_
    refine ops_nil (at_then ?_)
    refine run_ret ?_
    refine at_block_ret ?_
    refine at_then_ret ?_
    refine at_then_ret ?_
    refine at_block_ret ?_
    refine at_then_ret ?_
    replace HM := (HM.front 0 rfl rfl).drop
    have hR := Option.some.inj ho6166
    subst hR
    have hT := thn_inl H
    have hR := Option.some.inj hT
    subst hR
    exact at_ret1 rfl rfl ⟨_, rfl, rfl, HM⟩
   ·replace ho6166 := cond_f hb6181 ho6166
    refine run_skip ?_
    refine at_block ?_
    refine at_then ?_
    refine run_region rfl ?_
    refine ox rfl rfl rfl rfl (ex_add rfl rfl rfl) ?_
    refine ox rfl rfl rfl rfl (ex_move rfl rfl) ?_
    refine ops_nil ?_
    exact at_again k6176 (ρ1 := [(0, p0), (3, .pointer (some ⟨b6148, 0, none⟩)), (7, .int .i64 (x0.length : Int)), (8, .int .i64 (wrap64 (a6171 + 1)))]) (Nat.lt_succ_self _) ⟨_, ho6166, rfl, HM⟩ (Sub.cons rfl (Sub.cons rfl (Sub.cons rfl (Sub.cons rfl Sub.nil))))
  ·replace ho6166 := cond_f hb6178 ho6166
   refine run_exit ?_
   refine at_then_exit ?_
   refine at_then_exit ?_
   refine at_block_exit ?_
   replace HM := (HM.front 0 rfl rfl).drop
   exact at_mid (ρ' := []) ⟨(Option.some.inj ho6166), rfl, HM⟩ Sub.nil
 ·rintro _ w6182 ⟨rfl, rfl, HM⟩
  replace H := (thn_inr H)
  refine run_seq ?_
  refine run_region rfl ?_
  refine ox rfl rfl rfl rfl (ex_assign rfl rfl) ?_
  refine ops_nil (at_then ?_)
  refine run_ret ?_
  have hR := Option.some.inj H
  subst hR
  exact at_ret1 rfl rfl ⟨_, rfl, rfl, HM⟩

def slices_Contains_impl_Ref.f (k : Nat) (x0 : List Ref) (x1 : Ref) : Option Bool := ((slices_Index_impl_Ref.f k x0 x1).bind fun t6189 => some (decide (0 ≤ t6189)))
theorem slices_Contains_impl_Ref.calls {k : Nat} {x0 : List Ref} {x1 : Ref} {p0 : Value} {w : World} (hp0 : RdS kRef w p0 x0) {r : Bool} (H : slices_Contains_impl_Ref.f k x0 x1 = some r) :
  Calls Tryz.prog 71 ([p0, .agg #[(.int .i64 x1.fTx), (.int .i64 x1.fAt)]] : List Value).toArray w (fun e w_ => ∃ v, e = .returned v ∧ v = (.bool r) ∧ Mem w [] w_ []) := by
 have HM := Mem.start w
 refine calls_run (N := 9) Tryz.func71 rfl rfl rfl rfl ?_
 unfold slices_Contains_impl_Ref.f at H
 refine run_seq ?_
 refine run_region rfl ?_
 refine od rfl rfl rfl rfl (does_box (cs := [.int .i64 x1.fTx, .int .i64 x1.fAt]) rfl rfl rfl HM) ?_
 rintro _ w6188 ⟨b6185, rfl, HM⟩
 refine ox rfl rfl rfl rfl (ex_assign rfl rfl) ?_
 refine ops_nil (at_then (run_seq ?_))
 obtain ⟨t6189, h6190, H⟩ := bind_some H
 refine run_region rfl ?_
 refine ox rfl rfl rfl rfl (ex_move rfl rfl) ?_
 refine ox rfl rfl rfl rfl (ex_loadN (cs := [(.int .i64 x1.fTx), (.int .i64 x1.fAt)]) rfl rfl Tryz.underlying81 rfl tsz81 rfl ((HM.box_at 0 rfl).sub 0 2 rfl)) ?_
 refine od rfl rfl rfl rfl (does_callk rfl callok98 rfl (slices_Index_impl_Ref.calls (x0 := x0) (x1 := x1) (HM.rd hp0) h6190)) ?_
 rintro _ w6191 ⟨rfl, hn⟩
 replace HM : Mem w [] w6191 [box b6185 81 [.int .i64 x1.fTx, .int .i64 x1.fAt]] := HM.call hn
 refine ox rfl rfl rfl rfl (ex_geq rfl rfl rfl) ?_
 refine ox rfl rfl rfl rfl (ex_assign rfl rfl) ?_
 refine ops_nil (at_then ?_)
 refine run_ret ?_
 replace HM := (HM.front 0 rfl rfl).drop
 have hR := Option.some.inj H
 subst hR
 exact at_ret1 rfl rfl ⟨_, rfl, rfl, HM⟩

def impl_outFault.f (k : Nat) (x0 : Out) : Option Int := ((impl_within.f k x0.fValue 1 1000000).bind fun t6256 => (bif !t6256 then some 3 else ((impl_RuleFault.f k x0.fRule).bind fun t6260 => some t6260)))
theorem impl_outFault.calls {k : Nat} {x0 : Out} {p0_0 : Value} {w : World} (hp0_0 : RdS kInt w p0_0 x0.fRule.fKeys) {r : Int} (H : impl_outFault.f k x0 = some r) :
  Calls Tryz.prog 72 ([.agg #[(.int .i64 x0.fValue), p0_0, (.int .i64 x0.fRule.fNeed), (.int .i64 x0.fRule.fAfter)]] : List Value).toArray w (fun e w_ => ∃ v, e = .returned v ∧ v = (.int .i64 r) ∧ Mem w [] w_ []) := by
 have HM := Mem.start w
 refine calls_run (N := 10) Tryz.func72 rfl rfl rfl rfl ?_
 unfold impl_outFault.f at H
 refine run_seq ?_
 refine run_region rfl ?_
 refine od rfl rfl rfl rfl (does_box (cs := [.int .i64 x0.fValue, p0_0, .int .i64 x0.fRule.fNeed, .int .i64 x0.fRule.fAfter]) rfl rfl rfl HM) ?_
 rintro _ w6255 ⟨b6252, rfl, HM⟩
 refine ox rfl rfl rfl rfl (ex_assign rfl rfl) ?_
 refine ops_nil (at_then (run_seq ?_))
 refine run_seq ?_
 obtain ⟨t6256, h6257, H⟩ := bind_some H
 refine run_region rfl ?_
 refine ox rfl rfl rfl rfl (ex_fieldAddr (off' := 0) rfl rfl Tryz.underlying84 rfl tsz2 rfl) ?_
 refine ox rfl rfl rfl rfl (ex_load1 rfl rfl Tryz.underlying2 rfl ((HM.box_at 0 rfl) 0 _ rfl)) ?_
 refine od rfl rfl rfl rfl (does_callk rfl callok65 rfl (impl_within.calls (x0 := x0.fValue) (x1 := 1) (x2 := 1000000) h6257)) ?_
 rintro _ w6258 ⟨rfl, hn⟩
 replace HM : Mem w [] w6258 [box b6252 84 [.int .i64 x0.fValue, p0_0, .int .i64 x0.fRule.fNeed, .int .i64 x0.fRule.fAfter]] := HM.call hn
 refine ox rfl rfl rfl rfl (ex_not rfl rfl) ?_
 refine ops_nil (at_then ?_)
 refine run_cond (b := !t6256) rfl (fun hb6259 => ?_) (fun hb6259 => ?_)
 ·replace H := cond_t hb6259 H
  refine run_seq ?_
  refine run_region rfl ?_
  refine ox rfl rfl rfl rfl (ex_assign rfl rfl) ?_
  refine ops_nil (at_then ?_)
  refine run_ret ?_
  refine at_then_ret ?_
  replace HM := (HM.front 0 rfl rfl).drop
  have hR := Option.some.inj H
  subst hR
  exact at_ret1 rfl rfl ⟨_, rfl, rfl, HM⟩
 ·replace H := cond_f hb6259 H
  refine run_skip ?_
  refine at_then ?_
  refine run_seq ?_
  obtain ⟨t6260, h6261, H⟩ := bind_some H
  refine run_region rfl ?_
  refine ox rfl rfl rfl rfl (ex_fieldAddr (off' := 1) rfl rfl Tryz.underlying84 rfl tsz82 rfl) ?_
  refine ox rfl rfl rfl rfl (ex_loadN (cs := [p0_0, (.int .i64 x0.fRule.fNeed), (.int .i64 x0.fRule.fAfter)]) rfl rfl Tryz.underlying82 rfl tsz82 rfl ((HM.box_at 0 rfl).sub 1 3 rfl)) ?_
  refine od rfl rfl rfl rfl (does_callk rfl callok68 rfl (impl_RuleFault.calls (x0 := x0.fRule) (HM.rd hp0_0) h6261)) ?_
  rintro _ w6262 ⟨rfl, hn⟩
  replace HM : Mem w [] w6262 [box b6252 84 [.int .i64 x0.fValue, p0_0, .int .i64 x0.fRule.fNeed, .int .i64 x0.fRule.fAfter]] := HM.call hn
  refine ox rfl rfl rfl rfl (ex_assign rfl rfl) ?_
  refine ops_nil (at_then ?_)
  refine run_ret ?_
  replace HM := (HM.front 0 rfl rfl).drop
  have hR := Option.some.inj H
  subst hR
  exact at_ret1 rfl rfl ⟨_, rfl, rfl, HM⟩

def impl_TxFault.l0 (x0 : Tx) : Nat → Int → Option (Int ⊕ Unit)
 | 0, _ => none
 | k + 1, a6414 => (bif (decide (a6414 < (x0.fIns.length : Int))) then (chk (idxOk a6414 x0.fIns.length) ((impl_isRef.f k (gt x0.fIns a6414)).bind fun t6447 => (bif !t6447 then some (.inl 3) else (chk (cutOk a6414 x0.fIns.length) ((slices_Contains_impl_Ref.f k (x0.fIns.take (a6414).toNat) (gt x0.fIns a6414)).bind fun t6455 => (bif t6455 then some (.inl 7) else impl_TxFault.l0 x0 k (wrap64 (a6414 + 1)))))))) else some (.inr ()))
theorem impl_TxFault.l0_z (x0 : Tx) (a6414 : Int) : impl_TxFault.l0 x0 0 a6414 = none := rfl
theorem impl_TxFault.l0_s (x0 : Tx) (k : Nat) (a6414 : Int) : impl_TxFault.l0 x0 (k + 1) a6414 = (bif (decide (a6414 < (x0.fIns.length : Int))) then (chk (idxOk a6414 x0.fIns.length) ((impl_isRef.f k (gt x0.fIns a6414)).bind fun t6447 => (bif !t6447 then some (.inl 3) else (chk (cutOk a6414 x0.fIns.length) ((slices_Contains_impl_Ref.f k (x0.fIns.take (a6414).toNat) (gt x0.fIns a6414)).bind fun t6455 => (bif t6455 then some (.inl 7) else impl_TxFault.l0 x0 k (wrap64 (a6414 + 1)))))))) else some (.inr ())) := rfl
def impl_TxFault.l1 (x0 : Tx) : Nat → Int → Option (Int ⊕ Unit)
 | 0, _ => none
 | k + 1, a6507 => (bif (decide (a6507 < (x0.fOuts.length : Int))) then (chk (idxOk a6507 x0.fOuts.length) ((impl_outFault.f k (gt x0.fOuts a6507)).bind fun t6531 => (bif (t6531 != 0) then some (.inl t6531) else impl_TxFault.l1 x0 k (wrap64 (a6507 + 1))))) else some (.inr ()))
theorem impl_TxFault.l1_z (x0 : Tx) (a6507 : Int) : impl_TxFault.l1 x0 0 a6507 = none := rfl
theorem impl_TxFault.l1_s (x0 : Tx) (k : Nat) (a6507 : Int) : impl_TxFault.l1 x0 (k + 1) a6507 = (bif (decide (a6507 < (x0.fOuts.length : Int))) then (chk (idxOk a6507 x0.fOuts.length) ((impl_outFault.f k (gt x0.fOuts a6507)).bind fun t6531 => (bif (t6531 != 0) then some (.inl t6531) else impl_TxFault.l1 x0 k (wrap64 (a6507 + 1))))) else some (.inr ())) := rfl
def impl_TxFault.f (k : Nat) (x0 : Tx) : Option Int := ((impl_within.f k x0.fKind 0 2).bind fun t6311 => (bif ((!t6311) || ((x0.fKind == 0) != (x0.fMember == 0))) then some 1 else ((bif (x0.fMember != 0) then impl_isKey.f k x0.fMember else some default).bind fun t6318 => (bif ((x0.fMember != 0) && (!t6318)) then some 3 else ((impl_TxFault_1.f k (x0.fIns.length : Int)).bind fun t6325 => ((bif (!t6325) then impl_TxFault_1.f k (x0.fOuts.length : Int) else some default).bind fun t6327 => (bif (t6325 || t6327) then some 2 else ((impl_TxFault.l0 x0 k 0).bind fun o6393 => thn o6393 (fun r => some r) (fun _ => ((impl_TxFault.l1 x0 k 0).bind fun o6494 => thn o6494 (fun r => some r) (fun _ => (chk (!(x0.fKind == 1) || (idxOk (0 : Int) x0.fOuts.length)) (bif ((x0.fKind == 1) && (decide (((gt x0.fOuts (0 : Int)).fValue) < 100))) then some 8 else some 0)))))))))))))
theorem impl_TxFault.calls {k : Nat} {x0 : Tx} {p0_0 : Value} {p0_1 : Value} {w : World} (hp0_0 : RdS kRef w p0_0 x0.fIns) (hp0_1 : RdS kOut w p0_1 x0.fOuts) {r : Int} (H : impl_TxFault.f k x0 = some r) :
  Calls Tryz.prog 35 ([.agg #[(.int .i64 x0.fKind), (.int .i64 x0.fMember), p0_0, p0_1]] : List Value).toArray w (fun e w_ => ∃ v, e = .returned v ∧ v = (.int .i64 r) ∧ Mem w [] w_ []) := by
 have HM := Mem.start w
 refine calls_run (N := 88) Tryz.func35 rfl rfl rfl rfl ?_
 unfold impl_TxFault.f at H
 refine run_seq ?_
 refine run_region rfl ?_
 refine od rfl rfl rfl rfl (does_box (cs := [.int .i64 x0.fKind, .int .i64 x0.fMember, p0_0, p0_1]) rfl rfl rfl HM) ?_
 rintro _ w6299 ⟨b6296, rfl, HM⟩
 refine ox rfl rfl rfl rfl (ex_assign rfl rfl) ?_
 refine ops_nil (at_then (run_seq ?_))
 refine run_region rfl ?_
 refine ox rfl rfl rfl rfl (ex_assign rfl rfl) ?_
 refine ops_nil (at_then (run_seq ?_))
 refine run_block ?_
 refine run_seq ?_
 obtain ⟨t6311, h6312, H⟩ := bind_some H
 refine run_meet (fun ρ_ w_ => ρ_ = [(1, .pointer (some ⟨b6296, 0, none⟩)), (3, .func (.func 70) #[] #[]), (9, .bool ((!t6311) || ((x0.fKind == 0) != (x0.fMember == 0))))] ∧ Mem w [] w_ [box b6296 46 [.int .i64 x0.fKind, .int .i64 x0.fMember, p0_0, p0_1]]) ?_ ?_
 ·skip
  refine run_region rfl ?_
  refine ox rfl rfl rfl rfl (ex_fieldAddr (off' := 0) rfl rfl Tryz.underlying46 rfl tsz2 rfl) ?_
  refine ox rfl rfl rfl rfl (ex_load1 rfl rfl Tryz.underlying2 rfl ((HM.box_at 0 rfl) 0 _ rfl)) ?_
  refine od rfl rfl rfl rfl (does_callk rfl callok65 rfl (impl_within.calls (x0 := x0.fKind) (x1 := 0) (x2 := 2) h6312)) ?_
  rintro _ w6313 ⟨rfl, hn⟩
  replace HM : Mem w [] w6313 [box b6296 46 [.int .i64 x0.fKind, .int .i64 x0.fMember, p0_0, p0_1]] := HM.call hn
  refine ox rfl rfl rfl rfl (ex_not rfl rfl) ?_
  refine ox rfl rfl rfl rfl (ex_move rfl rfl) ?_
  refine bool_cases (!t6311) (fun hg6314 => ?_) (fun hg6314 => ?_)
  ·skip
   refine ops_off rfl (guard_off rfl rfl rfl hg6314) rfl rfl ?_
   refine ops_off rfl (guard_off rfl rfl rfl hg6314) rfl rfl ?_
   refine ops_off rfl (guard_off rfl rfl rfl hg6314) rfl rfl ?_
   refine ops_off rfl (guard_off rfl rfl rfl hg6314) rfl rfl ?_
   refine ops_off rfl (guard_off rfl rfl rfl hg6314) rfl rfl ?_
   refine ops_off rfl (guard_off rfl rfl rfl hg6314) rfl rfl ?_
   refine ops_off rfl (guard_off rfl rfl rfl hg6314) rfl rfl ?_
   have hg6315 : ((!t6311) || ((x0.fKind == 0) != (x0.fMember == 0))) = true := by simp only [hg6314, Bool.and_true, Bool.true_and, Bool.and_false, Bool.false_and, Bool.or_true, Bool.true_or, Bool.or_false, Bool.false_or, Bool.not_true, Bool.not_false, Bool.not_not]
   refine ops_ex (v := .bool ((!t6311) || ((x0.fKind == 0) != (x0.fMember == 0)))) rfl (guard_none rfl) rfl rfl (ex_por_t rfl rfl hg6314) ?_
   refine ox rfl rfl rfl rfl (ex_assign rfl rfl) ?_
   refine ops_nil ?_
   exact at_meet [(1, .pointer (some ⟨b6296, 0, none⟩)), (3, .func (.func 70) #[] #[]), (9, .bool ((!t6311) || ((x0.fKind == 0) != (x0.fMember == 0))))] ⟨rfl, HM⟩ (Sub.cons rfl (Sub.cons rfl (Sub.cons rfl Sub.nil)))
  ·skip
   refine ops_ex rfl (guard_on rfl rfl rfl hg6314) rfl rfl (ex_fieldAddr (off' := 0) rfl rfl Tryz.underlying46 rfl tsz2 rfl) ?_
   refine ops_ex rfl (guard_on rfl rfl rfl hg6314) rfl rfl (ex_load1 rfl rfl Tryz.underlying2 rfl ((HM.box_at 0 rfl) 0 _ rfl)) ?_
   refine ops_ex rfl (guard_on rfl rfl rfl hg6314) rfl rfl (ex_eql rfl rfl rfl) ?_
   refine ops_ex rfl (guard_on rfl rfl rfl hg6314) rfl rfl (ex_fieldAddr (off' := 1) rfl rfl Tryz.underlying46 rfl tsz2 rfl) ?_
   refine ops_ex rfl (guard_on rfl rfl rfl hg6314) rfl rfl (ex_load1 rfl rfl Tryz.underlying2 rfl ((HM.box_at 0 rfl) 1 _ rfl)) ?_
   refine ops_ex rfl (guard_on rfl rfl rfl hg6314) rfl rfl (ex_eql rfl rfl rfl) ?_
   refine ops_ex rfl (guard_on rfl rfl rfl hg6314) rfl rfl (ex_bneq rfl rfl rfl Tryz.underlying4) ?_
   refine ops_ex (v := .bool ((!t6311) || ((x0.fKind == 0) != (x0.fMember == 0)))) rfl (guard_none rfl) rfl rfl (ex_por_f rfl rfl hg6314 rfl) ?_
   refine ox rfl rfl rfl rfl (ex_assign rfl rfl) ?_
   refine ops_nil ?_
   exact at_meet [(1, .pointer (some ⟨b6296, 0, none⟩)), (3, .func (.func 70) #[] #[]), (9, .bool ((!t6311) || ((x0.fKind == 0) != (x0.fMember == 0))))] ⟨rfl, HM⟩ (Sub.cons rfl (Sub.cons rfl (Sub.cons rfl Sub.nil)))
 ·rintro _ w6316 ⟨rfl, HM⟩
  refine at_then ?_
  refine run_cond (b := ((!t6311) || ((x0.fKind == 0) != (x0.fMember == 0)))) rfl (fun hb6317 => ?_) (fun hb6317 => ?_)
  ·replace H := cond_t hb6317 H
   refine run_seq ?_
   refine run_region rfl ?_
   refine ox rfl rfl rfl rfl (ex_assign rfl rfl) ?_
   refine ops_nil (at_then ?_)
   refine run_ret ?_
   refine at_block_ret ?_
   refine at_then_ret ?_
   replace HM := (HM.front 0 rfl rfl).drop
   have hR := Option.some.inj H
   subst hR
   exact at_ret1 rfl rfl ⟨_, rfl, rfl, HM⟩
  ·replace H := cond_f hb6317 H
   refine run_seq ?_
   obtain ⟨t6318, h6319, H⟩ := bind_some H
   refine run_meet (fun ρ_ w_ => ρ_ = [(1, .pointer (some ⟨b6296, 0, none⟩)), (3, .func (.func 70) #[] #[]), (23, .bool ((x0.fMember != 0) && (!t6318)))] ∧ Mem w [] w_ [box b6296 46 [.int .i64 x0.fKind, .int .i64 x0.fMember, p0_0, p0_1]]) ?_ ?_
   ·skip
    refine run_region rfl ?_
    refine ox rfl rfl rfl rfl (ex_fieldAddr (off' := 1) rfl rfl Tryz.underlying46 rfl tsz2 rfl) ?_
    refine ox rfl rfl rfl rfl (ex_load1 rfl rfl Tryz.underlying2 rfl ((HM.box_at 0 rfl) 1 _ rfl)) ?_
    refine ox rfl rfl rfl rfl (ex_neq rfl rfl rfl) ?_
    refine ox rfl rfl rfl rfl (ex_move rfl rfl) ?_
    refine bool_cases (x0.fMember != 0) (fun hg6320 => ?_) (fun hg6320 => ?_)
    ·skip
     refine ops_ex rfl (guard_on rfl rfl rfl hg6320) rfl rfl (ex_fieldAddr (off' := 1) rfl rfl Tryz.underlying46 rfl tsz2 rfl) ?_
     refine ops_ex rfl (guard_on rfl rfl rfl hg6320) rfl rfl (ex_load1 rfl rfl Tryz.underlying2 rfl ((HM.box_at 0 rfl) 1 _ rfl)) ?_
     refine ops_does rfl (guard_on rfl rfl rfl hg6320) rfl rfl (does_callk rfl callok64 rfl (impl_isKey.calls (x0 := x0.fMember) (cond_t hg6320 h6319))) ?_
     rintro _ w6321 ⟨rfl, hn⟩
     replace HM : Mem w [] w6321 [box b6296 46 [.int .i64 x0.fKind, .int .i64 x0.fMember, p0_0, p0_1]] := HM.call hn
     refine ops_ex rfl (guard_on rfl rfl rfl hg6320) rfl rfl (ex_not rfl rfl) ?_
     refine ops_ex (v := .bool ((x0.fMember != 0) && (!t6318))) rfl (guard_none rfl) rfl rfl (ex_pand_t rfl rfl hg6320 rfl) ?_
     refine ox rfl rfl rfl rfl (ex_assign rfl rfl) ?_
     refine ops_nil ?_
     exact at_meet [(1, .pointer (some ⟨b6296, 0, none⟩)), (3, .func (.func 70) #[] #[]), (23, .bool ((x0.fMember != 0) && (!t6318)))] ⟨rfl, HM⟩ (Sub.cons rfl (Sub.cons rfl (Sub.cons rfl Sub.nil)))
    ·skip
     refine ops_off rfl (guard_off rfl rfl rfl hg6320) rfl rfl ?_
     refine ops_off rfl (guard_off rfl rfl rfl hg6320) rfl rfl ?_
     refine ops_off rfl (guard_off rfl rfl rfl hg6320) rfl rfl ?_
     refine ops_off rfl (guard_off rfl rfl rfl hg6320) rfl rfl ?_
     have hg6322 : ((x0.fMember != 0) && (!t6318)) = false := by simp only [hg6320, Bool.and_true, Bool.true_and, Bool.and_false, Bool.false_and, Bool.or_true, Bool.true_or, Bool.or_false, Bool.false_or, Bool.not_true, Bool.not_false, Bool.not_not]
     refine ops_ex (v := .bool ((x0.fMember != 0) && (!t6318))) rfl (guard_none rfl) rfl rfl (ex_pand_f rfl rfl hg6320) ?_
     refine ox rfl rfl rfl rfl (ex_assign rfl rfl) ?_
     refine ops_nil ?_
     exact at_meet [(1, .pointer (some ⟨b6296, 0, none⟩)), (3, .func (.func 70) #[] #[]), (23, .bool ((x0.fMember != 0) && (!t6318)))] ⟨rfl, HM⟩ (Sub.cons rfl (Sub.cons rfl (Sub.cons rfl Sub.nil)))
   ·rintro _ w6323 ⟨rfl, HM⟩
    refine at_then ?_
    refine run_cond (b := ((x0.fMember != 0) && (!t6318))) rfl (fun hb6324 => ?_) (fun hb6324 => ?_)
    ·replace H := cond_t hb6324 H
     refine run_seq ?_
     refine run_region rfl ?_
     refine ox rfl rfl rfl rfl (ex_assign rfl rfl) ?_
     refine ops_nil (at_then ?_)
     refine run_ret ?_
     refine at_block_ret ?_
     refine at_then_ret ?_
     replace HM := (HM.front 0 rfl rfl).drop
     have hR := Option.some.inj H
     subst hR
     exact at_ret1 rfl rfl ⟨_, rfl, rfl, HM⟩
    ·replace H := cond_f hb6324 H
     refine run_seq ?_
     obtain ⟨t6325, h6326, H⟩ := bind_some H
     obtain ⟨t6327, h6328, H⟩ := bind_some H
     refine run_meet (fun ρ_ w_ => ρ_ = [(1, .pointer (some ⟨b6296, 0, none⟩)), (33, .bool (t6325 || t6327))] ∧ Mem w [] w_ [box b6296 46 [.int .i64 x0.fKind, .int .i64 x0.fMember, p0_0, p0_1]]) ?_ ?_
     ·skip
      refine run_region rfl ?_
      refine ox rfl rfl rfl rfl (ex_move rfl rfl) ?_
      refine ox rfl rfl rfl rfl (ex_fieldAddr (off' := 2) rfl rfl Tryz.underlying46 rfl tsz43 rfl) ?_
      refine ox rfl rfl rfl rfl (ex_load1 rfl rfl Tryz.underlying43 rfl ((HM.box_at 0 rfl) 2 _ rfl)) ?_
      refine ox rfl rfl rfl rfl (ex_len (d := kRef) (xs := x0.fIns) rfl rfl Tryz.underlying43 hp0_0) ?_
      refine od rfl rfl rfl rfl (does_callvk rfl callok70 rfl rfl rfl (impl_TxFault_1.calls (x0 := (x0.fIns.length : Int)) h6326)) ?_
      rintro _ w6329 ⟨rfl, hn⟩
      replace HM : Mem w [] w6329 [box b6296 46 [.int .i64 x0.fKind, .int .i64 x0.fMember, p0_0, p0_1]] := HM.call hn
      refine ox rfl rfl rfl rfl (ex_move rfl rfl) ?_
      refine bool_cases t6325 (fun hg6330 => ?_) (fun hg6330 => ?_)
      ·skip
       refine ops_off rfl (guard_off rfl rfl rfl hg6330) rfl rfl ?_
       refine ops_off rfl (guard_off rfl rfl rfl hg6330) rfl rfl ?_
       refine ops_off rfl (guard_off rfl rfl rfl hg6330) rfl rfl ?_
       refine ops_off rfl (guard_off rfl rfl rfl hg6330) rfl rfl ?_
       refine ops_off rfl (guard_off rfl rfl rfl hg6330) rfl rfl ?_
       have hg6331 : (t6325 || t6327) = true := by simp only [hg6330, Bool.and_true, Bool.true_and, Bool.and_false, Bool.false_and, Bool.or_true, Bool.true_or, Bool.or_false, Bool.false_or, Bool.not_true, Bool.not_false, Bool.not_not]
       refine ops_ex (v := .bool (t6325 || t6327)) rfl (guard_none rfl) rfl rfl (ex_por_t rfl rfl hg6330) ?_
       refine ox rfl rfl rfl rfl (ex_assign rfl rfl) ?_
       refine ops_nil ?_
       exact at_meet [(1, .pointer (some ⟨b6296, 0, none⟩)), (33, .bool (t6325 || t6327))] ⟨rfl, HM⟩ (Sub.cons rfl (Sub.cons rfl Sub.nil))
      ·skip
       refine ops_ex rfl (guard_on rfl rfl rfl hg6330) rfl rfl (ex_move rfl rfl) ?_
       refine ops_ex rfl (guard_on rfl rfl rfl hg6330) rfl rfl (ex_fieldAddr (off' := 3) rfl rfl Tryz.underlying46 rfl tsz44 rfl) ?_
       refine ops_ex rfl (guard_on rfl rfl rfl hg6330) rfl rfl (ex_load1 rfl rfl Tryz.underlying44 rfl ((HM.box_at 0 rfl) 3 _ rfl)) ?_
       refine ops_ex rfl (guard_on rfl rfl rfl hg6330) rfl rfl (ex_len (d := kOut) (xs := x0.fOuts) rfl rfl Tryz.underlying44 hp0_1) ?_
       refine ops_does rfl (guard_on rfl rfl rfl hg6330) rfl rfl (does_callvk rfl callok70 rfl rfl rfl (impl_TxFault_1.calls (x0 := (x0.fOuts.length : Int)) (cond_t (not_mk hg6330) h6328))) ?_
       rintro _ w6332 ⟨rfl, hn⟩
       replace HM : Mem w [] w6332 [box b6296 46 [.int .i64 x0.fKind, .int .i64 x0.fMember, p0_0, p0_1]] := HM.call hn
       refine ops_ex (v := .bool (t6325 || t6327)) rfl (guard_none rfl) rfl rfl (ex_por_f rfl rfl hg6330 rfl) ?_
       refine ox rfl rfl rfl rfl (ex_assign rfl rfl) ?_
       refine ops_nil ?_
       exact at_meet [(1, .pointer (some ⟨b6296, 0, none⟩)), (33, .bool (t6325 || t6327))] ⟨rfl, HM⟩ (Sub.cons rfl (Sub.cons rfl Sub.nil))
     ·rintro _ w6333 ⟨rfl, HM⟩
      refine at_then ?_
      refine run_cond (b := (t6325 || t6327)) rfl (fun hb6334 => ?_) (fun hb6334 => ?_)
      ·replace H := cond_t hb6334 H
       refine run_seq ?_
       refine run_region rfl ?_
       refine ox rfl rfl rfl rfl (ex_assign rfl rfl) ?_
       refine ops_nil (at_then ?_)
       refine run_ret ?_
       refine at_block_ret ?_
       refine at_then_ret ?_
       replace HM := (HM.front 0 rfl rfl).drop
       have hR := Option.some.inj H
       subst hR
       exact at_ret1 rfl rfl ⟨_, rfl, rfl, HM⟩
      ·replace H := cond_f hb6334 H
       refine run_skip ?_
       refine at_block ?_
       refine at_then ?_
       obtain ⟨o6393, ho6394, H⟩ := bind_some H
       refine run_mid (fun ρ_ w_ => Sum.inr () = o6393 ∧ ρ_ = [(1, .pointer (some ⟨b6296, 0, none⟩))] ∧ Mem w [] w_ [box b6296 46 [.int .i64 x0.fKind, .int .i64 x0.fMember, p0_0, p0_1]]) ?_ ?_
       ·skip
        refine run_seq ?_
        refine run_region rfl ?_
        refine ox rfl rfl rfl rfl (ex_fieldAddr (off' := 2) rfl rfl Tryz.underlying46 rfl tsz43 rfl) ?_
        refine ox rfl rfl rfl rfl (ex_load1 rfl rfl Tryz.underlying43 rfl ((HM.box_at 0 rfl) 2 _ rfl)) ?_
        refine ox rfl rfl rfl rfl (ex_len (d := kRef) (xs := x0.fIns) rfl rfl Tryz.underlying43 hp0_0) ?_
        refine ox rfl rfl rfl rfl (ex_move rfl rfl) ?_
        refine ops_nil (at_then ?_)
        refine run_block ?_
        refine run_loop (fun k_ ρ_ w_ => ∃ a6414 : Int, impl_TxFault.l0 x0 k_ a6414 = some o6393 ∧ ρ_ = [(1, .pointer (some ⟨b6296, 0, none⟩)), (47, p0_0), (48, .int .i64 (x0.fIns.length : Int)), (49, .int .i64 a6414)] ∧ Mem w [] w_ [box b6296 46 [.int .i64 x0.fKind, .int .i64 x0.fMember, p0_0, p0_1]]) k (ρ1 := [(1, .pointer (some ⟨b6296, 0, none⟩)), (47, p0_0), (48, .int .i64 (x0.fIns.length : Int)), (49, .int .i64 0)]) ⟨_, ho6394, rfl, HM⟩ (Sub.cons rfl (Sub.cons rfl (Sub.cons rfl (Sub.cons rfl Sub.nil)))) ?_
        clear HM ho6394
        rintro k6434 _ w6435 ⟨a6414, ho6394, rfl, HM⟩
        obtain _ | k6434 := k6434
        ·exact nomatch ((impl_TxFault.l0_z x0 a6414).symm.trans ho6394)
        replace ho6394 := (impl_TxFault.l0_s x0 k6434 a6414).symm.trans ho6394
        refine run_seq ?_
        refine run_region rfl ?_
        refine ox rfl rfl rfl rfl (ex_lss rfl rfl rfl) ?_
        refine ops_nil (at_then (run_seq ?_))
        refine run_cond (b := (decide (a6414 < (x0.fIns.length : Int)))) rfl (fun hb6436 => ?_) (fun hb6436 => ?_)
        ·replace ho6394 := cond_t hb6436 ho6394
         refine run_skip ?_
         refine at_then ?_
         refine run_seq ?_
         refine run_block ?_
         refine run_seq ?_
         obtain ⟨e6437, ho6394⟩ := chk_some ho6394
         refine run_region rfl ?_
         refine ox rfl rfl rfl rfl (ex_move rfl rfl) ?_
         have hc6438 : CellsAt _ (sb p0_0) (so p0_0 + (a6414).toNat * 2) [(.int .i64 ((gt x0.fIns a6414).fTx)), (.int .i64 ((gt x0.fIns a6414).fAt))] := rd_plain hp0_0 e6437
         refine ox rfl rfl rfl rfl (ex_indexAddr (d := kRef) rfl rfl rfl Tryz.underlying43 tsz81 hp0_0 (idx_lo e6437) (idx_hi e6437)) ?_
         refine ox rfl rfl rfl rfl (ex_loadN (cs := [(.int .i64 ((gt x0.fIns a6414).fTx)), (.int .i64 ((gt x0.fIns a6414).fAt))]) rfl rfl Tryz.underlying81 rfl tsz81 rfl ((HM.at_ hc6438).sub 0 2 rfl)) ?_
         refine od rfl rfl rfl rfl (does_alloc (cs := [.int .i64 0, .int .i64 0]) rfl tz81 rfl HM) ?_
         rintro _ w6442 ⟨b6439, rfl, HM⟩
         refine ox rfl rfl rfl rfl (ex_assign rfl rfl) ?_
         refine odS rfl rfl rfl (does_store (vs := [.int .i64 ((gt x0.fIns a6414).fTx), .int .i64 ((gt x0.fIns a6414).fAt)]) (cs' := [.int .i64 ((gt x0.fIns a6414).fTx), .int .i64 ((gt x0.fIns a6414).fAt)]) rfl rfl rfl rfl tsz81 (Ones.int (Ones.int Ones.nil)) rfl rfl HM) ?_
         rintro w6443 HM
         refine ops_nil (at_then (run_seq ?_))
         refine run_seq ?_
         obtain ⟨t6447, h6448, ho6394⟩ := bind_some ho6394
         refine run_region rfl ?_
         refine ox rfl rfl rfl rfl (ex_loadN (cs := [(.int .i64 ((gt x0.fIns a6414).fTx)), (.int .i64 ((gt x0.fIns a6414).fAt))]) rfl rfl Tryz.underlying81 rfl tsz81 rfl ((HM.box_at 0 rfl).sub 0 2 rfl)) ?_
         refine od rfl rfl rfl rfl (does_callk rfl callok67 rfl (impl_isRef.calls (x0 := (gt x0.fIns a6414)) h6448)) ?_
         rintro _ w6449 ⟨rfl, hn⟩
         replace HM : Mem w [] w6449 [box b6439 81 [.int .i64 ((gt x0.fIns a6414).fTx), .int .i64 ((gt x0.fIns a6414).fAt)], box b6296 46 [.int .i64 x0.fKind, .int .i64 x0.fMember, p0_0, p0_1]] := HM.call hn
         refine ox rfl rfl rfl rfl (ex_not rfl rfl) ?_
         refine ops_nil (at_then ?_)
         refine run_cond (b := !t6447) rfl (fun hb6450 => ?_) (fun hb6450 => ?_)
         ·replace ho6394 := cond_t hb6450 ho6394
          refine run_seq ?_
          refine run_region rfl ?_
          refine ox rfl rfl rfl rfl (ex_assign rfl rfl) ?_
          refine ops_nil (at_then ?_)
          refine run_ret ?_
          refine at_then_ret ?_
          refine at_block_ret ?_
          refine at_then_ret ?_
          refine at_then_ret ?_
          refine at_block_ret ?_
          refine at_then_ret ?_
          replace HM := (HM.front 0 rfl rfl).drop
          replace HM := (HM.front 0 rfl rfl).drop
          have hR := Option.some.inj ho6394
          subst hR
          have hT := thn_inl H
          have hR := Option.some.inj hT
          subst hR
          exact at_ret1 rfl rfl ⟨_, rfl, rfl, HM⟩
         ·replace ho6394 := cond_f hb6450 ho6394
          refine run_skip ?_
          refine at_then ?_
          refine run_seq ?_
          obtain ⟨e6451, ho6394⟩ := chk_some ho6394
          obtain ⟨t6455, h6456, ho6394⟩ := bind_some ho6394
          refine run_drawf (fun w_ => Mem w [] w_ [box b6439 81 [.int .i64 ((gt x0.fIns a6414).fTx), .int .i64 ((gt x0.fIns a6414).fAt)], box b6296 46 [.int .i64 x0.fKind, .int .i64 x0.fMember, p0_0, p0_1]]) [(0, true), (1, true), (2, true), (3, true), (4, true), (5, false)] mixed rfl rfl (by kernel_rfl) ?_
          replace HM := HM.grow (fr_drew _)
          have hS := Mem.suf (M := []) HM
          refine dp rfl rfl rfl rfl (ex_fieldAddr (off' := 2) rfl rfl Tryz.underlying46 rfl tsz43 rfl) hS ?_
          refine drwp_take rfl (guard_none rfl) rfl rfl (fun w_ hS_ => (ex_load1 rfl rfl Tryz.underlying43 rfl ((hS_.box_at 1 rfl) 2 _ rfl))) hS ?_
          refine dp rfl rfl rfl rfl (ex_move rfl rfl) hS ?_
          refine drwp_takeE rfl (guard_none rfl) rfl rfl (ex_cutH kRef rfl rfl rfl Tryz.underlying43 tsz81 hp0_0 e6451) hS ?_
          rintro u6452 hr6454
          refine drwp_take rfl (guard_none rfl) rfl rfl (fun w_ hS_ => (ex_loadN (cs := [(.int .i64 ((gt x0.fIns a6414).fTx)), (.int .i64 ((gt x0.fIns a6414).fAt))]) rfl rfl Tryz.underlying81 rfl tsz81 rfl ((hS_.box_at 0 rfl).sub 0 2 rfl))) hS ?_
          refine drwp_one rfl (guard_none rfl) rfl rfl (does_callk rfl callok71 rfl (slices_Contains_impl_Ref.calls (x0 := x0.fIns.take (a6414).toNat) (x1 := (gt x0.fIns a6414)) (HM.rd hr6454) h6456)) ?_
          rintro _ w6457 ⟨rfl, hn⟩
          replace HM : Mem w [] w6457 [box b6439 81 [.int .i64 ((gt x0.fIns a6414).fTx), .int .i64 ((gt x0.fIns a6414).fAt)], box b6296 46 [.int .i64 x0.fKind, .int .i64 x0.fMember, p0_0, p0_1]] := HM.call hn
          have hS := Mem.suf (M := []) HM
          refine ⟨hS, ?_⟩
          refine drwp_done ?_
          refine at_then ?_
          refine run_cond (b := t6455) rfl (fun hb6458 => ?_) (fun hb6458 => ?_)
          ·replace ho6394 := cond_t hb6458 ho6394
           refine run_seq ?_
           refine run_region rfl ?_
           refine ox rfl rfl rfl rfl (ex_assign rfl rfl) ?_
           refine ops_nil (at_then ?_)
           refine run_ret ?_
           refine at_block_ret ?_
           refine at_then_ret ?_
           refine at_then_ret ?_
           refine at_block_ret ?_
           refine at_then_ret ?_
           replace HM := (HM.front 0 rfl rfl).drop
           replace HM := (HM.front 0 rfl rfl).drop
           have hR := Option.some.inj ho6394
           subst hR
           have hT := thn_inl H
           have hR := Option.some.inj hT
           subst hR
           exact at_ret1 rfl rfl ⟨_, rfl, rfl, HM⟩
          ·replace ho6394 := cond_f hb6458 ho6394
           refine run_skip ?_
           refine at_block ?_
           refine at_then ?_
           refine run_region rfl ?_
           refine ox rfl rfl rfl rfl (ex_add rfl rfl rfl) ?_
           refine ox rfl rfl rfl rfl (ex_move rfl rfl) ?_
           refine ops_nil ?_
           replace HM := (HM.front 0 rfl rfl).drop
           exact at_again k6434 (ρ1 := [(1, .pointer (some ⟨b6296, 0, none⟩)), (47, p0_0), (48, .int .i64 (x0.fIns.length : Int)), (49, .int .i64 (wrap64 (a6414 + 1)))]) (Nat.lt_succ_self _) ⟨_, ho6394, rfl, HM⟩ (Sub.cons rfl (Sub.cons rfl (Sub.cons rfl (Sub.cons rfl Sub.nil))))
        ·replace ho6394 := cond_f hb6436 ho6394
         refine run_exit ?_
         refine at_then_exit ?_
         refine at_then_exit ?_
         refine at_block_exit ?_
         exact at_mid (ρ' := [(1, .pointer (some ⟨b6296, 0, none⟩))]) ⟨(Option.some.inj ho6394), rfl, HM⟩ (Sub.cons rfl Sub.nil)
       ·rintro _ w6459 ⟨rfl, rfl, HM⟩
        replace H := (thn_inr H)
        obtain ⟨o6494, ho6495, H⟩ := bind_some H
        refine run_mid (fun ρ_ w_ => Sum.inr () = o6494 ∧ ρ_ = [(1, .pointer (some ⟨b6296, 0, none⟩))] ∧ Mem w [] w_ [box b6296 46 [.int .i64 x0.fKind, .int .i64 x0.fMember, p0_0, p0_1]]) ?_ ?_
        ·skip
         refine run_seq ?_
         refine run_region rfl ?_
         refine ox rfl rfl rfl rfl (ex_fieldAddr (off' := 3) rfl rfl Tryz.underlying46 rfl tsz44 rfl) ?_
         refine ox rfl rfl rfl rfl (ex_load1 rfl rfl Tryz.underlying44 rfl ((HM.box_at 0 rfl) 3 _ rfl)) ?_
         refine ox rfl rfl rfl rfl (ex_len (d := kOut) (xs := x0.fOuts) rfl rfl Tryz.underlying44 hp0_1) ?_
         refine ox rfl rfl rfl rfl (ex_move rfl rfl) ?_
         refine ops_nil (at_then ?_)
         refine run_block ?_
         refine run_loop (fun k_ ρ_ w_ => ∃ a6507 : Int, impl_TxFault.l1 x0 k_ a6507 = some o6494 ∧ ρ_ = [(1, .pointer (some ⟨b6296, 0, none⟩)), (65, p0_1), (66, .int .i64 (x0.fOuts.length : Int)), (67, .int .i64 a6507)] ∧ Mem w [] w_ [box b6296 46 [.int .i64 x0.fKind, .int .i64 x0.fMember, p0_0, p0_1]]) k (ρ1 := [(1, .pointer (some ⟨b6296, 0, none⟩)), (65, p0_1), (66, .int .i64 (x0.fOuts.length : Int)), (67, .int .i64 0)]) ⟨_, ho6495, rfl, HM⟩ (Sub.cons rfl (Sub.cons rfl (Sub.cons rfl (Sub.cons rfl Sub.nil)))) ?_
         clear HM ho6495
         rintro k6519 _ w6520 ⟨a6507, ho6495, rfl, HM⟩
         obtain _ | k6519 := k6519
         ·exact nomatch ((impl_TxFault.l1_z x0 a6507).symm.trans ho6495)
         replace ho6495 := (impl_TxFault.l1_s x0 k6519 a6507).symm.trans ho6495
         refine run_seq ?_
         refine run_region rfl ?_
         refine ox rfl rfl rfl rfl (ex_lss rfl rfl rfl) ?_
         refine ops_nil (at_then (run_seq ?_))
         refine run_cond (b := (decide (a6507 < (x0.fOuts.length : Int)))) rfl (fun hb6521 => ?_) (fun hb6521 => ?_)
         ·replace ho6495 := cond_t hb6521 ho6495
          refine run_skip ?_
          refine at_then ?_
          refine run_seq ?_
          refine run_block ?_
          refine run_seq ?_
          obtain ⟨e6522, ho6495⟩ := chk_some ho6495
          refine run_region rfl ?_
          obtain ⟨kv6524, hc6523, hk6525⟩ : ∃ u, CellsAt _ (sb p0_1) (so p0_1 + (a6507).toNat * 4) [(.int .i64 ((gt x0.fOuts a6507).fValue)), u, (.int .i64 ((gt x0.fOuts a6507).fRule.fNeed)), (.int .i64 ((gt x0.fOuts a6507).fRule.fAfter))] ∧ RdS kInt _ u ((gt x0.fOuts a6507).fRule.fKeys) := rd_with1 hp0_1 e6522
          refine ox rfl rfl rfl rfl (ex_indexAddr (d := kOut) rfl rfl rfl Tryz.underlying44 tsz84 hp0_1 (idx_lo e6522) (idx_hi e6522)) ?_
          refine ox rfl rfl rfl rfl (ex_loadN (cs := [(.int .i64 ((gt x0.fOuts a6507).fValue)), kv6524, (.int .i64 ((gt x0.fOuts a6507).fRule.fNeed)), (.int .i64 ((gt x0.fOuts a6507).fRule.fAfter))]) rfl rfl Tryz.underlying84 rfl tsz84 rfl ((HM.at_ hc6523).sub 0 4 rfl)) ?_
          refine od rfl rfl rfl rfl (does_alloc (cs := [.int .i64 0, .slice none 0 0, .int .i64 0, .int .i64 0]) rfl tz84 rfl HM) ?_
          rintro _ w6529 ⟨b6526, rfl, HM⟩
          refine odS rfl rfl rfl (does_store (vs := [.int .i64 ((gt x0.fOuts a6507).fValue), kv6524, .int .i64 ((gt x0.fOuts a6507).fRule.fNeed), .int .i64 ((gt x0.fOuts a6507).fRule.fAfter)]) (cs' := [.int .i64 ((gt x0.fOuts a6507).fValue), kv6524, .int .i64 ((gt x0.fOuts a6507).fRule.fNeed), .int .i64 ((gt x0.fOuts a6507).fRule.fAfter)]) rfl rfl rfl rfl tsz84 (Ones.int (Ones.rd hk6525 (Ones.int (Ones.int Ones.nil)))) rfl rfl HM) ?_
          rintro w6530 HM
          refine ops_nil (at_then (run_seq ?_))
          obtain ⟨t6531, h6532, ho6495⟩ := bind_some ho6495
          refine run_region rfl ?_
          refine ox rfl rfl rfl rfl (ex_loadN (cs := [(.int .i64 ((gt x0.fOuts a6507).fValue)), kv6524, (.int .i64 ((gt x0.fOuts a6507).fRule.fNeed)), (.int .i64 ((gt x0.fOuts a6507).fRule.fAfter))]) rfl rfl Tryz.underlying84 rfl tsz84 rfl ((HM.box_at 0 rfl).sub 0 4 rfl)) ?_
          refine od rfl rfl rfl rfl (does_callk rfl callok72 rfl (impl_outFault.calls (x0 := (gt x0.fOuts a6507)) (HM.rd hk6525) h6532)) ?_
          rintro _ w6533 ⟨rfl, hn⟩
          replace HM : Mem w [] w6533 [box b6526 84 [.int .i64 ((gt x0.fOuts a6507).fValue), kv6524, .int .i64 ((gt x0.fOuts a6507).fRule.fNeed), .int .i64 ((gt x0.fOuts a6507).fRule.fAfter)], box b6296 46 [.int .i64 x0.fKind, .int .i64 x0.fMember, p0_0, p0_1]] := HM.call hn
          refine ox rfl rfl rfl rfl (ex_assign rfl rfl) ?_
          refine ops_nil (at_then (run_seq ?_))
          refine run_region rfl ?_
          refine ox rfl rfl rfl rfl (ex_move rfl rfl) ?_
          refine ox rfl rfl rfl rfl (ex_neq rfl rfl rfl) ?_
          refine ops_nil (at_then ?_)
          refine run_cond (b := (t6531 != 0)) rfl (fun hb6534 => ?_) (fun hb6534 => ?_)
          ·replace ho6495 := cond_t hb6534 ho6495
           refine run_seq ?_
           refine run_region rfl ?_
           refine ox rfl rfl rfl rfl (ex_move rfl rfl) ?_
           refine ox rfl rfl rfl rfl (ex_assign rfl rfl) ?_
           refine ops_nil (at_then ?_)
           refine run_ret ?_
           refine at_block_ret ?_
           refine at_then_ret ?_
           refine at_then_ret ?_
           refine at_block_ret ?_
           refine at_then_ret ?_
           replace HM := (HM.front 0 rfl rfl).drop
           replace HM := (HM.front 0 rfl rfl).drop
           have hR := Option.some.inj ho6495
           subst hR
           have hT := thn_inl H
           have hR := Option.some.inj hT
           subst hR
           exact at_ret1 rfl rfl ⟨_, rfl, rfl, HM⟩
          ·replace ho6495 := cond_f hb6534 ho6495
           refine run_skip ?_
           refine at_block ?_
           refine at_then ?_
           refine run_region rfl ?_
           refine ox rfl rfl rfl rfl (ex_add rfl rfl rfl) ?_
           refine ox rfl rfl rfl rfl (ex_move rfl rfl) ?_
           refine ops_nil ?_
           replace HM := (HM.front 0 rfl rfl).drop
           exact at_again k6519 (ρ1 := [(1, .pointer (some ⟨b6296, 0, none⟩)), (65, p0_1), (66, .int .i64 (x0.fOuts.length : Int)), (67, .int .i64 (wrap64 (a6507 + 1)))]) (Nat.lt_succ_self _) ⟨_, ho6495, rfl, HM⟩ (Sub.cons rfl (Sub.cons rfl (Sub.cons rfl (Sub.cons rfl Sub.nil))))
         ·replace ho6495 := cond_f hb6521 ho6495
          refine run_exit ?_
          refine at_then_exit ?_
          refine at_then_exit ?_
          refine at_block_exit ?_
          exact at_mid (ρ' := [(1, .pointer (some ⟨b6296, 0, none⟩))]) ⟨(Option.some.inj ho6495), rfl, HM⟩ (Sub.cons rfl Sub.nil)
        ·rintro _ w6535 ⟨rfl, rfl, HM⟩
         replace H := (thn_inr H)
         refine run_seq ?_
         refine run_seq ?_
         obtain ⟨e6536, H⟩ := chk_some H
         refine run_meet (fun ρ_ w_ => ρ_ = [(87, .bool ((x0.fKind == 1) && (decide (((gt x0.fOuts (0 : Int)).fValue) < 100))))] ∧ Mem w [] w_ []) ?_ ?_
         ·skip
          refine run_region rfl ?_
          refine ox rfl rfl rfl rfl (ex_fieldAddr (off' := 0) rfl rfl Tryz.underlying46 rfl tsz2 rfl) ?_
          refine ox rfl rfl rfl rfl (ex_load1 rfl rfl Tryz.underlying2 rfl ((HM.box_at 0 rfl) 0 _ rfl)) ?_
          refine ox rfl rfl rfl rfl (ex_eql rfl rfl rfl) ?_
          refine ox rfl rfl rfl rfl (ex_move rfl rfl) ?_
          refine bool_cases (x0.fKind == 1) (fun hg6540 => ?_) (fun hg6540 => ?_)
          ·skip
           refine ops_ex rfl (guard_on rfl rfl rfl hg6540) rfl rfl (ex_fieldAddr (off' := 3) rfl rfl Tryz.underlying46 rfl tsz44 rfl) ?_
           refine ops_ex rfl (guard_on rfl rfl rfl hg6540) rfl rfl (ex_load1 rfl rfl Tryz.underlying44 rfl ((HM.box_at 0 rfl) 3 _ rfl)) ?_
           obtain ⟨kv6538, hc6537, hk6539⟩ : ∃ u, CellsAt _ (sb p0_1) (so p0_1 + ((0 : Int)).toNat * 4) [(.int .i64 ((gt x0.fOuts (0 : Int)).fValue)), u, (.int .i64 ((gt x0.fOuts (0 : Int)).fRule.fNeed)), (.int .i64 ((gt x0.fOuts (0 : Int)).fRule.fAfter))] ∧ RdS kInt _ u ((gt x0.fOuts (0 : Int)).fRule.fKeys) := rd_with1 hp0_1 (or_t e6536 hg6540)
           refine ops_ex rfl (guard_on rfl rfl rfl hg6540) rfl rfl (ex_indexAddr (d := kOut) rfl rfl rfl Tryz.underlying44 tsz84 hp0_1 (idx_lo (or_t e6536 hg6540)) (idx_hi (or_t e6536 hg6540))) ?_
           refine ops_ex rfl (guard_on rfl rfl rfl hg6540) rfl rfl (ex_fieldAddr (off' := so p0_1 + ((0 : Int)).toNat * 4) rfl rfl Tryz.underlying84 rfl tsz2 rfl) ?_
           refine ops_ex rfl (guard_on rfl rfl rfl hg6540) rfl rfl (ex_load1 rfl rfl Tryz.underlying2 rfl ((HM.at_ hc6537) 0 _ rfl)) ?_
           refine ops_ex rfl (guard_on rfl rfl rfl hg6540) rfl rfl (ex_lss rfl rfl rfl) ?_
           refine ops_ex (v := .bool ((x0.fKind == 1) && (decide (((gt x0.fOuts (0 : Int)).fValue) < 100)))) rfl (guard_none rfl) rfl rfl (ex_pand_t rfl rfl hg6540 rfl) ?_
           refine ops_nil ?_
           replace HM := (HM.front 0 rfl rfl).drop
           exact at_meet [(87, .bool ((x0.fKind == 1) && (decide (((gt x0.fOuts (0 : Int)).fValue) < 100))))] ⟨rfl, HM⟩ (Sub.cons rfl Sub.nil)
          ·skip
           refine ops_off rfl (guard_off rfl rfl rfl hg6540) rfl rfl ?_
           refine ops_off rfl (guard_off rfl rfl rfl hg6540) rfl rfl ?_
           refine ops_off rfl (guard_off rfl rfl rfl hg6540) rfl rfl ?_
           refine ops_off rfl (guard_off rfl rfl rfl hg6540) rfl rfl ?_
           refine ops_off rfl (guard_off rfl rfl rfl hg6540) rfl rfl ?_
           refine ops_off rfl (guard_off rfl rfl rfl hg6540) rfl rfl ?_
           have hg6541 : ((x0.fKind == 1) && (decide (((gt x0.fOuts (0 : Int)).fValue) < 100))) = false := by simp only [hg6540, Bool.and_true, Bool.true_and, Bool.and_false, Bool.false_and, Bool.or_true, Bool.true_or, Bool.or_false, Bool.false_or, Bool.not_true, Bool.not_false, Bool.not_not]
           refine ops_ex (v := .bool ((x0.fKind == 1) && (decide (((gt x0.fOuts (0 : Int)).fValue) < 100)))) rfl (guard_none rfl) rfl rfl (ex_pand_f rfl rfl hg6540) ?_
           refine ops_nil ?_
           replace HM := (HM.front 0 rfl rfl).drop
           exact at_meet [(87, .bool ((x0.fKind == 1) && (decide (((gt x0.fOuts (0 : Int)).fValue) < 100))))] ⟨rfl, HM⟩ (Sub.cons rfl Sub.nil)
         ·rintro _ w6542 ⟨rfl, HM⟩
          refine at_then ?_
          refine run_cond (b := ((x0.fKind == 1) && (decide (((gt x0.fOuts (0 : Int)).fValue) < 100)))) rfl (fun hb6543 => ?_) (fun hb6543 => ?_)
          ·replace H := cond_t hb6543 H
           refine run_seq ?_
           refine run_region rfl ?_
           refine ox rfl rfl rfl rfl (ex_assign rfl rfl) ?_
           refine ops_nil (at_then ?_)
           refine run_ret ?_
           refine at_then_ret ?_
           have hR := Option.some.inj H
           subst hR
           exact at_ret1 rfl rfl ⟨_, rfl, rfl, HM⟩
          ·replace H := cond_f hb6543 H
           refine run_skip ?_
           refine at_then ?_
           refine run_seq ?_
           refine run_region rfl ?_
           refine ox rfl rfl rfl rfl (ex_assign rfl rfl) ?_
           refine ops_nil (at_then ?_)
           refine run_ret ?_
           have hR := Option.some.inj H
           subst hR
           exact at_ret1 rfl rfl ⟨_, rfl, rfl, HM⟩

def impl_kindWords.f (k : Nat)  : Option ((List ByteArray)) := some ([(⟨#[112, 97, 121]⟩ : ByteArray), (⟨#[106, 111, 105, 110]⟩ : ByteArray), (⟨#[108, 101, 97, 118, 101]⟩ : ByteArray)] : List ByteArray)
theorem impl_kindWords.calls {k : Nat}   {w : World}  {r : (List ByteArray)} (H : impl_kindWords.f k  = some r) :
  Calls Tryz.prog 99 ([] : List Value).toArray w (fun e w_ => ∃ v, e = .returned v ∧ ∃ u0 : Value, v = u0 ∧ Mem w [] w_ [own kStr 9 u0 r]) := by
 have HM := Mem.start w
 refine calls_run (N := 2) Tryz.func99 rfl rfl rfl rfl ?_
 unfold impl_kindWords.f at H
 refine run_seq ?_
 refine run_region rfl ?_
 refine ox rfl rfl rfl rfl (ex_assign rfl rfl) ?_
 refine ops_nil (at_then (run_seq ?_))
 refine run_region rfl ?_
 refine od rfl rfl rfl rfl (does_lit (e := 9) (cs := [.string (⟨#[112, 97, 121]⟩ : ByteArray), .string (⟨#[106, 111, 105, 110]⟩ : ByteArray), .string (⟨#[108, 101, 97, 118, 101]⟩ : ByteArray)]) (xs := ([(⟨#[112, 97, 121]⟩ : ByteArray), (⟨#[106, 111, 105, 110]⟩ : ByteArray), (⟨#[108, 101, 97, 118, 101]⟩ : ByteArray)] : List ByteArray)) kStr rfl rfl (fun _ => by kernel_rfl) rfl rfl (fun _ _ h => by have h' : _ = [] := h; subst h'; exact (Elems.cons (d := kStr) (x := (⟨#[112, 97, 121]⟩ : ByteArray)) (f := []) ⟨rfl, rfl⟩ (Elems.cons (d := kStr) (x := (⟨#[106, 111, 105, 110]⟩ : ByteArray)) (f := []) ⟨rfl, rfl⟩ (Elems.cons (d := kStr) (x := (⟨#[108, 101, 97, 118, 101]⟩ : ByteArray)) (f := []) ⟨rfl, rfl⟩ .nil)))) HM.emp) ?_
 rintro v6579 w6582 HM
 refine ox rfl rfl rfl rfl (ex_assign rfl rfl) ?_
 refine ops_nil (at_then ?_)
 refine run_ret ?_
 have hR := Option.some.inj H
 subst hR
 exact at_ret1 rfl rfl ⟨_, rfl, _, rfl, HM⟩

def strconv_FormatInt.f (k : Nat) (x0 : Int) (x1 : Int) : Option ByteArray := (chk ((decide (-9223372036854775808 ≤ x0) && decide (x0 ≤ 9223372036854775807)) && (x1 == 10)) (some (⟨(Lib.itoa x0).toArray⟩ : ByteArray)))
theorem strconv_FormatInt.calls {k : Nat} {x0 x1 : Int} {w : World} (htab : Tab w) {r : ByteArray} (H : strconv_FormatInt.f k x0 x1 = some r) :
  Calls Tryz.prog 113 ([.int .i64 x0, .int .i64 x1] : List Value).toArray w (fun e w_ => ∃ v, e = .returned v ∧ v = (.string r) ∧ Mem w [] w_ []) := by
 obtain ⟨h, H⟩ := chk_some H
 have hR := Option.some.inj H
 subst hR
 simp only [Bool.and_eq_true, decide_eq_true_eq, beq_iff_eq] at h
 obtain ⟨⟨h0, h1⟩, rfl⟩ := h
 exact (Tryz.strconv_FormatInt_10 x0 h0 h1 w htab).mono fun e w_ ⟨he, k, os, hw⟩ => ⟨_, he, rfl, hw ▸ mem_grow w k os⟩

def impl_dec.f (k : Nat) (x0 : Int) : Option ByteArray := ((strconv_FormatInt.f k x0 10).bind fun t6594 => some t6594)
theorem impl_dec.calls {k : Nat} {x0 : Int}  {w : World} (htab : Tab w)  {r : ByteArray} (H : impl_dec.f k x0 = some r) :
  Calls Tryz.prog 100 ([.int .i64 x0] : List Value).toArray w (fun e w_ => ∃ v, e = .returned v ∧ v = (.string r) ∧ Mem w [] w_ []) := by
 have HM := Mem.start w
 refine calls_run (N := 5) Tryz.func100 rfl rfl rfl rfl ?_
 unfold impl_dec.f at H
 refine run_seq ?_
 refine run_region rfl ?_
 refine ox rfl rfl rfl rfl (ex_assign rfl rfl) ?_
 refine ops_nil (at_then (run_seq ?_))
 obtain ⟨t6594, h6595, H⟩ := bind_some H
 refine run_region rfl ?_
 refine ox rfl rfl rfl rfl (ex_move rfl rfl) ?_
 refine od rfl rfl rfl rfl (does_callk rfl callok113 rfl (strconv_FormatInt.calls (x0 := x0) (x1 := 10) (HM.tab htab) h6595)) ?_
 rintro _ w6596 ⟨rfl, hn⟩
 replace HM : Mem w [] w6596 [] := HM.call hn
 refine ox rfl rfl rfl rfl (ex_assign rfl rfl) ?_
 refine ops_nil (at_then ?_)
 refine run_ret ?_
 have hR := Option.some.inj H
 subst hR
 exact at_ret1 rfl rfl ⟨_, rfl, rfl, HM⟩

def strings_Join.f (k : Nat) (x0 : List ByteArray) (x1 : ByteArray) : Option ByteArray := (chk (leB x0.length 140737488355328 && leB (Lib.join (x0.map (·.data.toList)) x1.data.toList).length 140737488355328) (some (⟨(Lib.join (x0.map (·.data.toList)) x1.data.toList).toArray⟩ : ByteArray)))
theorem strings_Join.calls {k : Nat} {x0 : List ByteArray} {x1 : ByteArray} {p0 : Value} {w : World} (hp0 : RdS kStr w p0 x0) {r : ByteArray} (H : strings_Join.f k x0 x1 = some r) :
  Calls Tryz.prog 101 ([p0, .string x1] : List Value).toArray w (fun e w_ => ∃ v, e = .returned v ∧ v = (.string r) ∧ Mem w [] w_ []) := by
 obtain ⟨h, H⟩ := chk_some H
 have hR := Option.some.inj H
 subst hR
 rw [Bool.and_eq_true] at h
 have hm : ∀ w_, Below w.heap.size w w_ → Mem w [] w_ [] := fun w_ hb => ⟨Fr.of_below hb nodr, [], .nil, List.nodup_nil, by simp⟩
 obtain ⟨A, c, rfl, hc, hA⟩ := hp0
 rcases hA with rfl | ⟨b, o, rfl, hA⟩
 ·exact (Tryz.strings_Join_none A c x1 w).mono fun e w_ ⟨he, hw⟩ => ⟨_, he, rfl, hm _ (hw ▸ Below.refl _ _)⟩
 ·cases hx : x0 with
  | nil => subst hx; exact (Tryz.strings_Join_none _ c x1 w).mono fun e w_ ⟨he, hw⟩ => ⟨_, he, rfl, hm _ (hw ▸ Below.refl _ _)⟩
  | cons a l =>
   rw [← hx]
   have hcell : ∀ (j : Nat) x, x0[j]? = some x → w.cell? ⟨b, o + j, none⟩ = some (.string x) := fun j x hj => by
    obtain ⟨hlt, e1⟩ := List.getElem?_eq_some_iff.1 hj
    obtain ⟨cs, h2, h3⟩ := hA j hlt
    have h2' : cs = [Value.string x0[j]] := h2
    subst h2'
    have h4 : w.cell? ⟨b, o + j * 1 + 0, none⟩ = some (.string x0[j]) := h3 0 _ rfl
    rw [e1] at h4
    simpa using h4
   exact (Tryz.strings_Join b o c x0 x1 w hcell (World.block_lt_of_cell? w _ (hcell 0 a (by rw [hx]; rfl))) (leB_le h.1) hc (leB_le h.2)).mono fun e w_ ⟨he, hw⟩ => ⟨_, he, rfl, hm _ hw⟩

def impl_joined.l0 (x0 : List Int) : Nat → (List ByteArray) → Int → Option ((List ByteArray))
 | 0, _, _ => none
 | k + 1, a6817, a6819 => (bif (decide (a6819 < (x0.length : Int))) then (chk (idxOk a6819 x0.length) ((impl_dec.f k (gt x0 a6819)).bind fun t6836 => (chk (leB ((a6817.length + ([t6836] : List ByteArray).length) * 16) 140737488355328) (impl_joined.l0 x0 k (a6817 ++ ([t6836] : List ByteArray)) (wrap64 (a6819 + 1)))))) else some a6817)
theorem impl_joined.l0_z (x0 : List Int) (a6817 : List ByteArray) (a6819 : Int) : impl_joined.l0 x0 0 a6817 a6819 = none := rfl
theorem impl_joined.l0_s (x0 : List Int) (k : Nat) (a6817 : List ByteArray) (a6819 : Int) : impl_joined.l0 x0 (k + 1) a6817 a6819 = (bif (decide (a6819 < (x0.length : Int))) then (chk (idxOk a6819 x0.length) ((impl_dec.f k (gt x0 a6819)).bind fun t6836 => (chk (leB ((a6817.length + ([t6836] : List ByteArray).length) * 16) 140737488355328) (impl_joined.l0 x0 k (a6817 ++ ([t6836] : List ByteArray)) (wrap64 (a6819 + 1)))))) else some a6817) := rfl
def impl_joined.f (k : Nat) (x0 : List Int) (x1 : ByteArray) : Option ByteArray := ((impl_joined.l0 x0 k ([] : List ByteArray) 0).bind (fun a6801 => ((strings_Join.f k a6801 x1).bind fun t6848 => some t6848)))
theorem impl_joined.calls {k : Nat} {x0 : List Int} {x1 : ByteArray} {p0 : Value} {w : World} (htab : Tab w) (hp0 : RdS kInt w p0 x0) {r : ByteArray} (H : impl_joined.f k x0 x1 = some r) :
  Calls Tryz.prog 117 ([p0, .string x1] : List Value).toArray w (fun e w_ => ∃ v, e = .returned v ∧ v = (.string r) ∧ Mem w [] w_ []) := by
 have HM := Mem.start w
 refine calls_run (N := 24) Tryz.func117 rfl rfl rfl rfl ?_
 unfold impl_joined.f at H
 refine run_seq ?_
 refine run_region rfl ?_
 refine ox rfl rfl rfl rfl (ex_assign rfl rfl) ?_
 refine ops_nil (at_then (run_seq ?_))
 refine run_region rfl ?_
 refine od rfl rfl rfl rfl (does_lit (e := 9) (cs := []) (xs := ([] : List ByteArray)) kStr rfl rfl (fun _ => by kernel_rfl) rfl rfl (fun _ _ h => by have h' : _ = [] := h; subst h'; exact .nil) HM.emp) ?_
 rintro v6759 w6762 HM
 refine ox rfl rfl rfl rfl (ex_assign rfl rfl) ?_
 refine ops_nil (at_then ?_)
 obtain ⟨o6803, ho6804, H⟩ := bind_some H
 refine run_mid (fun ρ_ w_ => ∃ v6800 : Value, ∃ a6801 : List ByteArray, a6801 = o6803 ∧ ρ_ = [(1, .string x1), (5, v6800)] ∧ Mem w [] w_ [own kStr 9 v6800 a6801]) ?_ ?_
 ·clear H
  refine run_seq ?_
  refine run_region rfl ?_
  refine ox rfl rfl rfl rfl (ex_move rfl rfl) ?_
  refine ox rfl rfl rfl rfl (ex_len (d := kInt) (xs := x0) rfl rfl Tryz.underlying58 hp0) ?_
  refine ox rfl rfl rfl rfl (ex_move rfl rfl) ?_
  refine ops_nil (at_then ?_)
  refine run_block ?_
  refine run_loop (fun k_ ρ_ w_ => ∃ v6816 : Value, ∃ a6817 : List ByteArray, ∃ a6819 : Int, impl_joined.l0 x0 k_ a6817 a6819 = some o6803 ∧ ρ_ = [(1, .string x1), (5, v6816), (9, p0), (10, .int .i64 (x0.length : Int)), (11, .int .i64 a6819)] ∧ Mem w [] w_ [own kStr 9 v6816 a6817]) k (ρ1 := [(1, .string x1), (5, v6759), (9, p0), (10, .int .i64 (x0.length : Int)), (11, .int .i64 0)]) ⟨_, _, _, ho6804, rfl, HM⟩ (Sub.cons rfl (Sub.cons rfl (Sub.cons rfl (Sub.cons rfl (Sub.cons rfl Sub.nil))))) ?_
  clear HM ho6804
  rintro k6831 _ w6832 ⟨v6816, a6817, a6819, ho6804, rfl, HM⟩
  obtain _ | k6831 := k6831
  ·exact nomatch ((impl_joined.l0_z x0 a6817 a6819).symm.trans ho6804)
  replace ho6804 := (impl_joined.l0_s x0 k6831 a6817 a6819).symm.trans ho6804
  refine run_seq ?_
  refine run_region rfl ?_
  refine ox rfl rfl rfl rfl (ex_lss rfl rfl rfl) ?_
  refine ops_nil (at_then (run_seq ?_))
  refine run_cond (b := (decide (a6819 < (x0.length : Int)))) rfl (fun hb6833 => ?_) (fun hb6833 => ?_)
  ·replace ho6804 := cond_t hb6833 ho6804
   refine run_skip ?_
   refine at_then ?_
   refine run_seq ?_
   refine run_block ?_
   refine run_seq ?_
   obtain ⟨e6834, ho6804⟩ := chk_some ho6804
   refine run_region rfl ?_
   have hc6835 : CellsAt _ (sb p0) (so p0 + (a6819).toNat * 1) [(.int .i64 (gt x0 a6819))] := rd_plain hp0 e6834
   refine ox rfl rfl rfl rfl (ex_indexAddr (d := kInt) rfl rfl rfl Tryz.underlying58 tsz2 hp0 (idx_lo e6834) (idx_hi e6834)) ?_
   refine ox rfl rfl rfl rfl (ex_load1 rfl rfl Tryz.underlying2 rfl ((HM.at_ hc6835) 0 _ rfl)) ?_
   refine ox rfl rfl rfl rfl (ex_assign rfl rfl) ?_
   refine ops_nil (at_then ?_)
   obtain ⟨t6836, h6837, ho6804⟩ := bind_some ho6804
   obtain ⟨e6841, ho6804⟩ := chk_some ho6804
   refine run_region rfl ?_
   refine ox rfl rfl rfl rfl (ex_move rfl rfl) ?_
   refine ox rfl rfl rfl rfl (ex_move rfl rfl) ?_
   refine od rfl rfl rfl rfl (does_callk rfl callok100 rfl (impl_dec.calls (x0 := (gt x0 a6819)) (HM.tab htab) h6837)) ?_
   rintro _ w6844 ⟨rfl, hn⟩
   replace HM : Mem w [] w6844 [own kStr 9 v6816 a6817] := HM.call hn
   refine od rfl rfl rfl rfl (does_lit (e := 9) (cs := [.string t6836]) (xs := ([t6836] : List ByteArray)) kStr rfl rfl (fun _ => by kernel_rfl) rfl rfl (fun _ _ h => by have h' : _ = [] := h; subst h'; exact (Elems.cons (d := kStr) (x := t6836) (f := []) ⟨rfl, rfl⟩ .nil)) HM.emp) ?_
   rintro v6838 w6845 HM
   replace HM := HM.front 1 rfl rfl
   refine od rfl rfl rfl rfl (does_appendR kStr flat_plain rfl rfl rfl Tryz.underlying22 tsz9 rfl tby9 tz9 rfl rfl (leB_le e6841) (HM.own_rd 1 rfl) HM) ?_
   rintro v6842 w6846 HM
   refine ox rfl rfl rfl rfl (ex_assign rfl rfl) ?_
   refine ops_nil ?_
   refine at_block ?_
   refine at_then ?_
   refine run_region rfl ?_
   refine ox rfl rfl rfl rfl (ex_add rfl rfl rfl) ?_
   refine ox rfl rfl rfl rfl (ex_move rfl rfl) ?_
   refine ops_nil ?_
   replace HM := (HM.front 1 rfl rfl).drop
   exact at_again k6831 (ρ1 := [(1, .string x1), (5, v6842), (9, p0), (10, .int .i64 (x0.length : Int)), (11, .int .i64 (wrap64 (a6819 + 1)))]) (Nat.lt_succ_self _) ⟨_, _, _, ho6804, rfl, HM⟩ (Sub.cons rfl (Sub.cons rfl (Sub.cons rfl (Sub.cons rfl (Sub.cons rfl Sub.nil)))))
  ·replace ho6804 := cond_f hb6833 ho6804
   refine run_exit ?_
   refine at_then_exit ?_
   refine at_then_exit ?_
   refine at_block_exit ?_
   exact at_mid (ρ' := [(1, .string x1), (5, v6816)]) ⟨_, _, (Option.some.inj ho6804), rfl, HM⟩ (Sub.cons rfl (Sub.cons rfl Sub.nil))
 ·rintro _ w6847 ⟨v6800, a6801, rfl, rfl, HM⟩
  refine run_seq ?_
  obtain ⟨t6848, h6849, H⟩ := bind_some H
  refine run_region rfl ?_
  refine ox rfl rfl rfl rfl (ex_move rfl rfl) ?_
  refine ox rfl rfl rfl rfl (ex_move rfl rfl) ?_
  refine od rfl rfl rfl rfl (does_callk rfl callok101 rfl (strings_Join.calls (x0 := a6801) (x1 := x1) (HM.own_rd 0 rfl) h6849)) ?_
  rintro _ w6850 ⟨rfl, hn⟩
  replace HM : Mem w [] w6850 [own kStr 9 v6800 a6801] := HM.call hn
  refine ox rfl rfl rfl rfl (ex_assign rfl rfl) ?_
  refine ops_nil (at_then ?_)
  refine run_ret ?_
  replace HM := (HM.front 0 rfl rfl).drop
  have hR := Option.some.inj H
  subst hR
  exact at_ret1 rfl rfl ⟨_, rfl, rfl, HM⟩
end Go.Proofs.YtpfaihnmonfkhaaGreatDoor.Zk
