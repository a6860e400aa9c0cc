/- What functions of the program compute, each as a plain function, and that they do. Conditions: as each theorem states them. -/
import Derived.Test.YtkofpnbacgccnaaZkF9
namespace Go.Proofs.Ytkofpnbacgccnaa.Zk
open Go Go.RowKit Go.IntWalk Go.Proofs
set_option linter.unusedVariables false
set_option linter.unusedSimpArgs false
set_option maxRecDepth 100000
def spec_LedgerFault.f (k : Nat) (x0 : Ledger) : Option Int := ((spec_l1Fault.f k x0).bind fun t5283 => some t5283)
theorem spec_LedgerFault.calls {k : Nat} {x0 : Ledger} {p0_0 : Value} {p0_1 : Value} {w : World} (hp0_0 : RdS kStr w p0_0 x0.fTexts) (hp0_1 : RdS kSign w p0_1 x0.fSigns) {r : Int} (H : spec_LedgerFault.f k x0 = some r) :
    Calls Try.prog 50 ([.agg #[p0_0, p0_1]] : List Value).toArray w (fun e w_ => ∃ v, e = .returned v ∧ v = (.int .i64 r) ∧ Mem w [] w_ []) := by
  have HM := Mem.start w
  refine calls_run (N := 4) Try.func50 rfl rfl rfl rfl ?_
  unfold spec_LedgerFault.f at H
  refine run_seq ?_
  refine run_region rfl ?_
  refine ops_does rfl (guard_none rfl) rfl rfl (does_box (cs := [p0_0, p0_1]) rfl rfl rfl HM) ?_
  rintro _ w5282 ⟨b5279, rfl, HM⟩
  refine ops_ex rfl (guard_none rfl) rfl rfl (ex_assign rfl rfl) ?_
  refine ops_nil ?_
  refine at_then ?_
  refine run_seq ?_
  obtain ⟨t5283, h5284, H⟩ := bind_some H
  refine run_region rfl ?_
  refine ops_does rfl (guard_none rfl) rfl rfl (does_callk rfl callok94 rfl (spec_l1Fault.calls (x0 := x0) (HM.box_at 0 rfl) (HM.rd hp0_0) (HM.rd hp0_1) h5284)) ?_
  rintro _ w5285 ⟨rfl, hn⟩
  replace HM : Mem w [] w5285 [box b5279 85 [p0_0, p0_1]] := HM.call hn
  refine ops_ex rfl (guard_none rfl) rfl rfl (ex_assign rfl rfl) ?_
  refine ops_nil ?_
  refine at_then ?_
  refine run_ret ?_
  replace HM := (HM.front 0 rfl rfl).drop
  have hR := Option.some.inj H
  subst hR
  exact at_ret1 rfl rfl ⟨_, rfl, rfl, HM⟩

def impl_isText.f (k : Nat) (x0 : ByteArray) : Option Bool := ((impl_within.f k (x0.size : Int) 1 300).bind fun t5307 => some t5307)
theorem impl_isText.calls {k : Nat} {x0 : ByteArray}  {w : World}  {r : Bool} (H : impl_isText.f k x0 = some r) :
    Calls Try.prog 97 ([.string x0] : List Value).toArray w (fun e w_ => ∃ v, e = .returned v ∧ v = (.bool r) ∧ Mem w [] w_ []) := by
  have HM := Mem.start w
  refine calls_run (N := 6) Try.func97 rfl rfl rfl rfl ?_
  unfold impl_isText.f at H
  refine run_seq ?_
  refine run_region rfl ?_
  refine ops_ex rfl (guard_none rfl) rfl rfl (ex_assign rfl rfl) ?_
  refine ops_nil ?_
  refine at_then ?_
  refine run_seq ?_
  obtain ⟨t5307, h5308, H⟩ := bind_some H
  refine run_region rfl ?_
  refine ops_ex rfl (guard_none rfl) rfl rfl (ex_move rfl rfl) ?_
  refine ops_ex rfl (guard_none rfl) rfl rfl (ex_strlen rfl rfl Try.underlying9) ?_
  refine ops_does rfl (guard_none rfl) rfl rfl (does_callk rfl callok58 rfl (impl_within.calls (x0 := (x0.size : Int)) (x1 := 1) (x2 := 300) h5308)) ?_
  rintro _ w5309 ⟨rfl, hn⟩
  replace HM : Mem w [] w5309 [] := HM.call hn
  refine ops_ex rfl (guard_none rfl) rfl rfl (ex_assign rfl rfl) ?_
  refine ops_nil ?_
  refine at_then ?_
  refine run_ret ?_
  have hR := Option.some.inj H
  subst hR
  exact at_ret1 rfl rfl ⟨_, rfl, rfl, HM⟩

def slices_Index_string.l0 (x0 : List ByteArray) (x1 : ByteArray) : Nat → Int → Option (Int ⊕ Unit)
  | 0, _ => none
  | k + 1, a5354 => (bif (decide (a5354 < (x0.length : Int))) then (chk (idxOk a5354 x0.length) (bif (sEq x1 (gt x0 a5354)) then some (.inl a5354) else slices_Index_string.l0 x0 x1 k (wrap64 (a5354 + 1)))) else some (.inr ()))
theorem slices_Index_string.l0_z (x0 : List ByteArray) (x1 : ByteArray) (a5354 : Int) : slices_Index_string.l0 x0 x1 0 a5354 = none := rfl
theorem slices_Index_string.l0_s (x0 : List ByteArray) (x1 : ByteArray) (k : Nat) (a5354 : Int) : slices_Index_string.l0 x0 x1 (k + 1) a5354 = (bif (decide (a5354 < (x0.length : Int))) then (chk (idxOk a5354 x0.length) (bif (sEq x1 (gt x0 a5354)) then some (.inl a5354) else slices_Index_string.l0 x0 x1 k (wrap64 (a5354 + 1)))) else some (.inr ())) := rfl
def slices_Index_string.f (k : Nat) (x0 : List ByteArray) (x1 : ByteArray) : Option Int := ((slices_Index_string.l0 x0 x1 k 0).bind fun o5348 => thn o5348 (fun r => some r) (fun _ => some (-1)))
theorem slices_Index_string.calls {k : Nat} {x0 : List ByteArray} {x1 : ByteArray} {p0 : Value} {w : World} (hp0 : RdS kStr w p0 x0) {r : Int} (H : slices_Index_string.f k x0 x1 = some r) :
    Calls Try.prog 117 ([p0, .string x1] : List Value).toArray w (fun e w_ => ∃ v, e = .returned v ∧ v = (.int .i64 r) ∧ Mem w [] w_ []) := by
  have HM := Mem.start w
  refine calls_run (N := 19) Try.func117 rfl rfl rfl rfl ?_
  unfold slices_Index_string.f at H
  refine run_seq ?_
  refine run_region rfl ?_
  refine ops_ex rfl (guard_none rfl) rfl rfl (ex_assign rfl rfl) ?_
  refine ops_nil ?_
  refine at_then ?_
  obtain ⟨o5348, ho5349, H⟩ := bind_some H
  refine run_mid (fun ρ_ w_ => Sum.inr () = o5348 ∧ ρ_ = [] ∧ Mem w [] w_ []) ?_ ?_
  · skip
    refine run_seq ?_
    refine run_region rfl ?_
    refine ops_ex rfl (guard_none rfl) rfl rfl (ex_move rfl rfl) ?_
    refine ops_ex rfl (guard_none rfl) rfl rfl (ex_len (d := kStr) (xs := x0) rfl rfl Try.underlying77 hp0) ?_
    refine ops_ex rfl (guard_none rfl) rfl rfl (ex_move rfl rfl) ?_
    refine ops_nil ?_
    refine at_then ?_
    refine run_block ?_
    refine run_loop (fun k_ ρ_ w_ => ∃ a5354 : Int, slices_Index_string.l0 x0 x1 k_ a5354 = some o5348 ∧ ρ_ = [(0, p0), (1, .string x1), (7, .int .i64 (x0.length : Int)), (8, .int .i64 a5354)] ∧ Mem w [] w_ []) k (ρ1 := [(0, p0), (1, .string x1), (7, .int .i64 (x0.length : Int)), (8, .int .i64 0)]) ⟨_, ho5349, rfl, HM⟩ (Sub.cons rfl (Sub.cons rfl (Sub.cons rfl (Sub.cons rfl Sub.nil)))) ?_
    clear HM ho5349
    rintro k5359 _ w5360 ⟨a5354, ho5349, rfl, HM⟩
    obtain _ | k5359 := k5359
    · exact nomatch ((slices_Index_string.l0_z x0 x1 a5354).symm.trans ho5349)
    replace ho5349 := (slices_Index_string.l0_s x0 x1 k5359 a5354).symm.trans ho5349
    refine run_seq ?_
    refine run_region rfl ?_
    refine ops_ex rfl (guard_none rfl) rfl rfl (ex_lss rfl rfl rfl) ?_
    refine ops_nil ?_
    refine at_then ?_
    refine run_seq ?_
    refine run_cond (b := (decide (a5354 < (x0.length : Int)))) rfl (fun hb5361 => ?_) (fun hb5361 => ?_)
    · replace ho5349 := cond_t hb5361 ho5349
      refine run_skip ?_
      refine at_then ?_
      refine run_seq ?_
      refine run_block ?_
      refine run_seq ?_
      refine run_region rfl ?_
      refine ops_ex rfl (guard_none rfl) rfl rfl (ex_move rfl rfl) ?_
      refine ops_ex rfl (guard_none rfl) rfl rfl (ex_assign rfl rfl) ?_
      refine ops_nil ?_
      refine at_then ?_
      refine run_seq ?_
      obtain ⟨e5362, ho5349⟩ := chk_some ho5349
      refine run_region rfl ?_
      refine ops_ex rfl (guard_none rfl) rfl rfl (ex_move rfl rfl) ?_
      refine ops_ex rfl (guard_none rfl) rfl rfl (ex_move rfl rfl) ?_
      refine ops_ex rfl (guard_none rfl) rfl rfl (ex_move rfl rfl) ?_
      have hc5363 : CellsAt _ (sb p0) (so p0 + (a5354).toNat * 1) [(.string (gt x0 a5354))] := rd_plain hp0 e5362
      refine ops_ex rfl (guard_none rfl) rfl rfl (ex_indexAddr (d := kStr) rfl rfl rfl Try.underlying77 tsz9 hp0 (idx_lo e5362) (idx_hi e5362)) ?_
      refine ops_ex rfl (guard_none rfl) rfl rfl (ex_load1 rfl rfl Try.underlying9 rfl ((HM.at_ hc5363) 0 _ rfl)) ?_
      refine ops_ex rfl (guard_none rfl) rfl rfl (ex_seql rfl rfl rfl) ?_
      refine ops_nil ?_
      refine at_then ?_
      refine run_cond (b := (sEq x1 (gt x0 a5354))) rfl (fun hb5364 => ?_) (fun hb5364 => ?_)
      · replace ho5349 := cond_t hb5364 ho5349
        refine run_seq ?_
        refine run_region rfl ?_
        refine ops_ex rfl (guard_none rfl) rfl rfl (ex_move rfl rfl) ?_
        refine ops_ex rfl (guard_none rfl) rfl rfl (ex_assign rfl rfl) ?_
        refine ops_nil ?_
        refine at_then ?_
        refine run_ret ?_
        refine at_block_ret ?_
        refine at_then_ret ?_
        refine at_then_ret ?_
        refine at_block_ret ?_
        refine at_then_ret ?_
        have hR := Option.some.inj ho5349
        subst hR
        have hT := thn_inl H
        have hR := Option.some.inj hT
        subst hR
        exact at_ret1 rfl rfl ⟨_, rfl, rfl, HM⟩
      · replace ho5349 := cond_f hb5364 ho5349
        refine run_skip ?_
        refine at_block ?_
        refine at_then ?_
        refine run_region rfl ?_
        refine ops_ex rfl (guard_none rfl) rfl rfl (ex_add rfl rfl rfl) ?_
        refine ops_ex rfl (guard_none rfl) rfl rfl (ex_move rfl rfl) ?_
        refine ops_nil ?_
        exact at_again k5359 (ρ1 := [(0, p0), (1, .string x1), (7, .int .i64 (x0.length : Int)), (8, .int .i64 (wrap64 (a5354 + 1)))]) (Nat.lt_succ_self _) ⟨_, ho5349, rfl, HM⟩ (Sub.cons rfl (Sub.cons rfl (Sub.cons rfl (Sub.cons rfl Sub.nil))))
    · replace ho5349 := cond_f hb5361 ho5349
      refine run_exit ?_
      refine at_then_exit ?_
      refine at_then_exit ?_
      refine at_block_exit ?_
      exact at_mid (ρ' := []) ⟨(Option.some.inj ho5349), rfl, HM⟩ Sub.nil
  · rintro _ w5365 ⟨rfl, rfl, HM⟩
    replace H := (thn_inr H)
    refine run_seq ?_
    refine run_region rfl ?_
    refine ops_ex rfl (guard_none rfl) rfl rfl (ex_assign rfl rfl) ?_
    refine ops_nil ?_
    refine at_then ?_
    refine run_ret ?_
    have hR := Option.some.inj H
    subst hR
    exact at_ret1 rfl rfl ⟨_, rfl, rfl, HM⟩

def slices_Contains_string.f (k : Nat) (x0 : List ByteArray) (x1 : ByteArray) : Option Bool := ((slices_Index_string.f k x0 x1).bind fun t5368 => some (decide (0 ≤ t5368)))
theorem slices_Contains_string.calls {k : Nat} {x0 : List ByteArray} {x1 : ByteArray} {p0 : Value} {w : World} (hp0 : RdS kStr w p0 x0) {r : Bool} (H : slices_Contains_string.f k x0 x1 = some r) :
    Calls Try.prog 98 ([p0, .string x1] : List Value).toArray w (fun e w_ => ∃ v, e = .returned v ∧ v = (.bool r) ∧ Mem w [] w_ []) := by
  have HM := Mem.start w
  refine calls_run (N := 9) Try.func98 rfl rfl rfl rfl ?_
  unfold slices_Contains_string.f at H
  refine run_seq ?_
  refine run_region rfl ?_
  refine ops_ex rfl (guard_none rfl) rfl rfl (ex_assign rfl rfl) ?_
  refine ops_nil ?_
  refine at_then ?_
  refine run_seq ?_
  obtain ⟨t5368, h5369, H⟩ := bind_some H
  refine run_region rfl ?_
  refine ops_ex rfl (guard_none rfl) rfl rfl (ex_move rfl rfl) ?_
  refine ops_ex rfl (guard_none rfl) rfl rfl (ex_move rfl rfl) ?_
  refine ops_does rfl (guard_none rfl) rfl rfl (does_callk rfl callok117 rfl (slices_Index_string.calls (x0 := x0) (x1 := x1) (HM.rd hp0) h5369)) ?_
  rintro _ w5370 ⟨rfl, hn⟩
  replace HM : Mem w [] w5370 [] := HM.call hn
  refine ops_ex rfl (guard_none rfl) rfl rfl (ex_geq rfl rfl rfl) ?_
  refine ops_ex rfl (guard_none rfl) rfl rfl (ex_assign rfl rfl) ?_
  refine ops_nil ?_
  refine at_then ?_
  refine run_ret ?_
  have hR := Option.some.inj H
  subst hR
  exact at_ret1 rfl rfl ⟨_, rfl, rfl, HM⟩

def slices_Index_impl_Sign.l0 (x0 : List Sign) (x1 : Sign) : Nat → Int → Option (Int ⊕ Unit)
  | 0, _ => none
  | k + 1, a5473 => (bif (decide (a5473 < (x0.length : Int))) then (chk (idxOk a5473 x0.length) (bif ((x1.fKey == ((gt x0 a5473).fKey)) && (x1.fId == ((gt x0 a5473).fId))) then some (.inl a5473) else slices_Index_impl_Sign.l0 x0 x1 k (wrap64 (a5473 + 1)))) else some (.inr ()))
theorem slices_Index_impl_Sign.l0_z (x0 : List Sign) (x1 : Sign) (a5473 : Int) : slices_Index_impl_Sign.l0 x0 x1 0 a5473 = none := rfl
theorem slices_Index_impl_Sign.l0_s (x0 : List Sign) (x1 : Sign) (k : Nat) (a5473 : Int) : slices_Index_impl_Sign.l0 x0 x1 (k + 1) a5473 = (bif (decide (a5473 < (x0.length : Int))) then (chk (idxOk a5473 x0.length) (bif ((x1.fKey == ((gt x0 a5473).fKey)) && (x1.fId == ((gt x0 a5473).fId))) then some (.inl a5473) else slices_Index_impl_Sign.l0 x0 x1 k (wrap64 (a5473 + 1)))) else some (.inr ())) := rfl
def slices_Index_impl_Sign.f (k : Nat) (x0 : List Sign) (x1 : Sign) : Option Int := ((slices_Index_impl_Sign.l0 x0 x1 k 0).bind fun o5467 => thn o5467 (fun r => some r) (fun _ => some (-1)))
theorem slices_Index_impl_Sign.calls {k : Nat} {x0 : List Sign} {x1 : Sign} {p0 : Value} {w : World} (hp0 : RdS kSign w p0 x0) {r : Int} (H : slices_Index_impl_Sign.f k x0 x1 = some r) :
    Calls Try.prog 118 ([p0, .agg #[(.int .i64 x1.fKey), (.int .i64 x1.fId)]] : List Value).toArray w (fun e w_ => ∃ v, e = .returned v ∧ v = (.int .i64 r) ∧ Mem w [] w_ []) := by
  have HM := Mem.start w
  refine calls_run (N := 19) Try.func118 rfl rfl rfl rfl ?_
  unfold slices_Index_impl_Sign.f at H
  refine run_seq ?_
  refine run_region rfl ?_
  refine ops_does rfl (guard_none rfl) rfl rfl (does_box (cs := [.int .i64 x1.fKey, .int .i64 x1.fId]) rfl rfl rfl HM) ?_
  rintro _ w5453 ⟨b5450, rfl, HM⟩
  refine ops_ex rfl (guard_none rfl) rfl rfl (ex_assign rfl rfl) ?_
  refine ops_nil ?_
  refine at_then ?_
  obtain ⟨o5467, ho5468, H⟩ := bind_some H
  refine run_mid (fun ρ_ w_ => Sum.inr () = o5467 ∧ ρ_ = [] ∧ Mem w [] w_ []) ?_ ?_
  · skip
    refine run_seq ?_
    refine run_region rfl ?_
    refine ops_ex rfl (guard_none rfl) rfl rfl (ex_move rfl rfl) ?_
    refine ops_ex rfl (guard_none rfl) rfl rfl (ex_len (d := kSign) (xs := x0) rfl rfl Try.underlying83 hp0) ?_
    refine ops_ex rfl (guard_none rfl) rfl rfl (ex_move rfl rfl) ?_
    refine ops_nil ?_
    refine at_then ?_
    refine run_block ?_
    refine run_loop (fun k_ ρ_ w_ => ∃ a5473 : Int, slices_Index_impl_Sign.l0 x0 x1 k_ a5473 = some o5467 ∧ ρ_ = [(0, p0), (3, .pointer (some ⟨b5450, 0, none⟩)), (7, .int .i64 (x0.length : Int)), (8, .int .i64 a5473)] ∧ Mem w [] w_ [box b5450 134 [.int .i64 x1.fKey, .int .i64 x1.fId]]) k (ρ1 := [(0, p0), (3, .pointer (some ⟨b5450, 0, none⟩)), (7, .int .i64 (x0.length : Int)), (8, .int .i64 0)]) ⟨_, ho5468, rfl, HM⟩ (Sub.cons rfl (Sub.cons rfl (Sub.cons rfl (Sub.cons rfl Sub.nil)))) ?_
    clear HM ho5468
    rintro k5478 _ w5479 ⟨a5473, ho5468, rfl, HM⟩
    obtain _ | k5478 := k5478
    · exact nomatch ((slices_Index_impl_Sign.l0_z x0 x1 a5473).symm.trans ho5468)
    replace ho5468 := (slices_Index_impl_Sign.l0_s x0 x1 k5478 a5473).symm.trans ho5468
    refine run_seq ?_
    refine run_region rfl ?_
    refine ops_ex rfl (guard_none rfl) rfl rfl (ex_lss rfl rfl rfl) ?_
    refine ops_nil ?_
    refine at_then ?_
    refine run_seq ?_
    refine run_cond (b := (decide (a5473 < (x0.length : Int)))) rfl (fun hb5480 => ?_) (fun hb5480 => ?_)
    · replace ho5468 := cond_t hb5480 ho5468
      refine run_skip ?_
      refine at_then ?_
      refine run_seq ?_
      refine run_block ?_
      refine run_seq ?_
      refine run_region rfl ?_
      refine ops_ex rfl (guard_none rfl) rfl rfl (ex_move rfl rfl) ?_
      refine ops_ex rfl (guard_none rfl) rfl rfl (ex_assign rfl rfl) ?_
      refine ops_nil ?_
      refine at_then ?_
      refine run_seq ?_
      obtain ⟨e5481, ho5468⟩ := chk_some ho5468
      refine run_draw (fun w_ => Mem w [] w_ [box b5450 134 [.int .i64 x1.fKey, .int .i64 x1.fId]]) mixed rfl rfl ?_
      replace HM := HM.grow (fr_drew _)
      have hS := Mem.suf (M := []) HM
      refine drw_take (i := 0) (l' := #[true, false, false, false, false, false]) rfl (guard_none rfl) rfl rfl (by kernel_rfl) (fun w_ hS_ => (ex_loadN (cs := [(.int .i64 x1.fKey), (.int .i64 x1.fId)]) rfl rfl Try.underlying134 rfl tsz134 rfl ((hS_.box_at 0 rfl).sub 0 2 rfl))) hS ?_
      refine drw_take (i := 1) (l' := #[true, true, false, false, false, false]) rfl (guard_none rfl) rfl rfl (by kernel_rfl) (fun w_ hS_ => (ex_move rfl rfl)) hS ?_
      refine drw_take (i := 2) (l' := #[true, true, true, false, false, false]) rfl (guard_none rfl) rfl rfl (by kernel_rfl) (fun w_ hS_ => (ex_move rfl rfl)) hS ?_
      have hc5482 : CellsAt _ (sb p0) (so p0 + (a5473).toNat * 2) [(.int .i64 ((gt x0 a5473).fKey)), (.int .i64 ((gt x0 a5473).fId))] := rd_plain hp0 e5481
      refine drw_take (i := 3) (l' := #[true, true, true, true, false, false]) rfl (guard_none rfl) rfl rfl (by kernel_rfl) (fun w_ hS_ => (ex_indexAddr (d := kSign) rfl rfl rfl Try.underlying83 tsz134 hp0 (idx_lo e5481) (idx_hi e5481))) hS ?_
      refine drw_take (i := 4) (l' := #[true, true, true, true, true, false]) rfl (guard_none rfl) rfl rfl (by kernel_rfl) (fun w_ hS_ => (ex_loadN (cs := [(.int .i64 ((gt x0 a5473).fKey)), (.int .i64 ((gt x0 a5473).fId))]) rfl rfl Try.underlying134 rfl tsz134 rfl ((hS_.at_ hc5482).sub 0 2 rfl))) hS ?_
      refine drw_take (i := 5) (l' := #[true, true, true, true, true, true]) rfl (guard_none rfl) rfl rfl (by kernel_rfl) (fun w_ hS_ => (ex_aeql rfl rfl rfl (by kernel_rfl) (eqs134 _ _ _ _ _))) hS ?_
      refine drw_done (by kernel_rfl) ?_
      refine at_then ?_
      refine run_cond (b := ((x1.fKey == ((gt x0 a5473).fKey)) && (x1.fId == ((gt x0 a5473).fId)))) rfl (fun hb5483 => ?_) (fun hb5483 => ?_)
      · replace ho5468 := cond_t hb5483 ho5468
        refine run_seq ?_
        refine run_region rfl ?_
        refine ops_ex rfl (guard_none rfl) rfl rfl (ex_move rfl rfl) ?_
        refine ops_ex rfl (guard_none rfl) rfl rfl (ex_assign rfl rfl) ?_
        refine ops_nil ?_
        refine at_then ?_
        refine run_ret ?_
        refine at_block_ret ?_
        refine at_then_ret ?_
        refine at_then_ret ?_
        refine at_block_ret ?_
        refine at_then_ret ?_
        replace HM := (HM.front 0 rfl rfl).drop
        have hR := Option.some.inj ho5468
        subst hR
        have hT := thn_inl H
        have hR := Option.some.inj hT
        subst hR
        exact at_ret1 rfl rfl ⟨_, rfl, rfl, HM⟩
      · replace ho5468 := cond_f hb5483 ho5468
        refine run_skip ?_
        refine at_block ?_
        refine at_then ?_
        refine run_region rfl ?_
        refine ops_ex rfl (guard_none rfl) rfl rfl (ex_add rfl rfl rfl) ?_
        refine ops_ex rfl (guard_none rfl) rfl rfl (ex_move rfl rfl) ?_
        refine ops_nil ?_
        exact at_again k5478 (ρ1 := [(0, p0), (3, .pointer (some ⟨b5450, 0, none⟩)), (7, .int .i64 (x0.length : Int)), (8, .int .i64 (wrap64 (a5473 + 1)))]) (Nat.lt_succ_self _) ⟨_, ho5468, rfl, HM⟩ (Sub.cons rfl (Sub.cons rfl (Sub.cons rfl (Sub.cons rfl Sub.nil))))
    · replace ho5468 := cond_f hb5480 ho5468
      refine run_exit ?_
      refine at_then_exit ?_
      refine at_then_exit ?_
      refine at_block_exit ?_
      replace HM := (HM.front 0 rfl rfl).drop
      exact at_mid (ρ' := []) ⟨(Option.some.inj ho5468), rfl, HM⟩ Sub.nil
  · rintro _ w5484 ⟨rfl, rfl, HM⟩
    replace H := (thn_inr H)
    refine run_seq ?_
    refine run_region rfl ?_
    refine ops_ex rfl (guard_none rfl) rfl rfl (ex_assign rfl rfl) ?_
    refine ops_nil ?_
    refine at_then ?_
    refine run_ret ?_
    have hR := Option.some.inj H
    subst hR
    exact at_ret1 rfl rfl ⟨_, rfl, rfl, HM⟩

def slices_Contains_impl_Sign.f (k : Nat) (x0 : List Sign) (x1 : Sign) : Option Bool := ((slices_Index_impl_Sign.f k x0 x1).bind fun t5491 => some (decide (0 ≤ t5491)))
theorem slices_Contains_impl_Sign.calls {k : Nat} {x0 : List Sign} {x1 : Sign} {p0 : Value} {w : World} (hp0 : RdS kSign w p0 x0) {r : Bool} (H : slices_Contains_impl_Sign.f k x0 x1 = some r) :
    Calls Try.prog 99 ([p0, .agg #[(.int .i64 x1.fKey), (.int .i64 x1.fId)]] : List Value).toArray w (fun e w_ => ∃ v, e = .returned v ∧ v = (.bool r) ∧ Mem w [] w_ []) := by
  have HM := Mem.start w
  refine calls_run (N := 9) Try.func99 rfl rfl rfl rfl ?_
  unfold slices_Contains_impl_Sign.f at H
  refine run_seq ?_
  refine run_region rfl ?_
  refine ops_does rfl (guard_none rfl) rfl rfl (does_box (cs := [.int .i64 x1.fKey, .int .i64 x1.fId]) rfl rfl rfl HM) ?_
  rintro _ w5490 ⟨b5487, rfl, HM⟩
  refine ops_ex rfl (guard_none rfl) rfl rfl (ex_assign rfl rfl) ?_
  refine ops_nil ?_
  refine at_then ?_
  refine run_seq ?_
  obtain ⟨t5491, h5492, H⟩ := bind_some H
  refine run_region rfl ?_
  refine ops_ex rfl (guard_none rfl) rfl rfl (ex_move rfl rfl) ?_
  refine ops_ex rfl (guard_none rfl) rfl rfl (ex_loadN (cs := [(.int .i64 x1.fKey), (.int .i64 x1.fId)]) rfl rfl Try.underlying134 rfl tsz134 rfl ((HM.box_at 0 rfl).sub 0 2 rfl)) ?_
  refine ops_does rfl (guard_none rfl) rfl rfl (does_callk rfl callok118 rfl (slices_Index_impl_Sign.calls (x0 := x0) (x1 := x1) (HM.rd hp0) h5492)) ?_
  rintro _ w5493 ⟨rfl, hn⟩
  replace HM : Mem w [] w5493 [box b5487 134 [.int .i64 x1.fKey, .int .i64 x1.fId]] := HM.call hn
  refine ops_ex rfl (guard_none rfl) rfl rfl (ex_geq rfl rfl rfl) ?_
  refine ops_ex rfl (guard_none rfl) rfl rfl (ex_assign rfl rfl) ?_
  refine ops_nil ?_
  refine at_then ?_
  refine run_ret ?_
  replace HM := (HM.front 0 rfl rfl).drop
  have hR := Option.some.inj H
  subst hR
  exact at_ret1 rfl rfl ⟨_, rfl, rfl, HM⟩

def impl_LedgerFault.l0 (x0 : Ledger) : Nat → Int → Option (Int ⊕ Unit)
  | 0, _ => none
  | k + 1, a5622 => (bif (decide (a5622 < (x0.fTexts.length : Int))) then (chk (idxOk a5622 x0.fTexts.length) ((impl_isText.f k (gt x0.fTexts a5622)).bind fun t5647 => (bif !t5647 then some (.inl 2) else (chk (cutOk a5622 x0.fTexts.length) ((slices_Contains_string.f k (x0.fTexts.take (a5622).toNat) (gt x0.fTexts a5622)).bind fun t5655 => (bif t5655 then some (.inl 7) else impl_LedgerFault.l0 x0 k (wrap64 (a5622 + 1)))))))) else some (.inr ()))
theorem impl_LedgerFault.l0_z (x0 : Ledger) (a5622 : Int) : impl_LedgerFault.l0 x0 0 a5622 = none := rfl
theorem impl_LedgerFault.l0_s (x0 : Ledger) (k : Nat) (a5622 : Int) : impl_LedgerFault.l0 x0 (k + 1) a5622 = (bif (decide (a5622 < (x0.fTexts.length : Int))) then (chk (idxOk a5622 x0.fTexts.length) ((impl_isText.f k (gt x0.fTexts a5622)).bind fun t5647 => (bif !t5647 then some (.inl 2) else (chk (cutOk a5622 x0.fTexts.length) ((slices_Contains_string.f k (x0.fTexts.take (a5622).toNat) (gt x0.fTexts a5622)).bind fun t5655 => (bif t5655 then some (.inl 7) else impl_LedgerFault.l0 x0 k (wrap64 (a5622 + 1)))))))) else some (.inr ())) := rfl
def impl_LedgerFault.l1 (x0 : Ledger) : Nat → Int → Option (Int ⊕ Unit)
  | 0, _ => none
  | k + 1, a5755 => (bif (decide (a5755 < (x0.fSigns.length : Int))) then (chk (idxOk a5755 x0.fSigns.length) ((impl_isKey.f k ((gt x0.fSigns a5755).fKey)).bind fun t5794 => ((bif (!(!t5794)) then impl_within.f k ((gt x0.fSigns a5755).fId) 1 (x0.fTexts.length : Int) else some default).bind fun t5796 => (bif ((!t5794) || (!t5796)) then some (.inl 3) else (chk (cutOk a5755 x0.fSigns.length) ((slices_Contains_impl_Sign.f k (x0.fSigns.take (a5755).toNat) (gt x0.fSigns a5755)).bind fun t5808 => (bif t5808 then some (.inl 7) else impl_LedgerFault.l1 x0 k (wrap64 (a5755 + 1))))))))) else some (.inr ()))
theorem impl_LedgerFault.l1_z (x0 : Ledger) (a5755 : Int) : impl_LedgerFault.l1 x0 0 a5755 = none := rfl
theorem impl_LedgerFault.l1_s (x0 : Ledger) (k : Nat) (a5755 : Int) : impl_LedgerFault.l1 x0 (k + 1) a5755 = (bif (decide (a5755 < (x0.fSigns.length : Int))) then (chk (idxOk a5755 x0.fSigns.length) ((impl_isKey.f k ((gt x0.fSigns a5755).fKey)).bind fun t5794 => ((bif (!(!t5794)) then impl_within.f k ((gt x0.fSigns a5755).fId) 1 (x0.fTexts.length : Int) else some default).bind fun t5796 => (bif ((!t5794) || (!t5796)) then some (.inl 3) else (chk (cutOk a5755 x0.fSigns.length) ((slices_Contains_impl_Sign.f k (x0.fSigns.take (a5755).toNat) (gt x0.fSigns a5755)).bind fun t5808 => (bif t5808 then some (.inl 7) else impl_LedgerFault.l1 x0 k (wrap64 (a5755 + 1))))))))) else some (.inr ())) := rfl
def impl_LedgerFault.f (k : Nat) (x0 : Ledger) : Option Int := (bif ((decide (60 < (x0.fTexts.length : Int))) || (decide (120 < (x0.fSigns.length : Int)))) then some 2 else ((impl_LedgerFault.l0 x0 k 0).bind fun o5604 => thn o5604 (fun r => some r) (fun _ => ((impl_LedgerFault.l1 x0 k 0).bind fun o5730 => thn o5730 (fun r => some r) (fun _ => some 0)))))
theorem impl_LedgerFault.calls {k : Nat} {x0 : Ledger} {p0_0 : Value} {p0_1 : Value} {w : World} (hp0_0 : RdS kStr w p0_0 x0.fTexts) (hp0_1 : RdS kSign w p0_1 x0.fSigns) {r : Int} (H : impl_LedgerFault.f k x0 = some r) :
    Calls Try.prog 52 ([.agg #[p0_0, p0_1]] : List Value).toArray w (fun e w_ => ∃ v, e = .returned v ∧ v = (.int .i64 r) ∧ Mem w [] w_ []) := by
  have HM := Mem.start w
  refine calls_run (N := 63) Try.func52 rfl rfl rfl rfl ?_
  unfold impl_LedgerFault.f at H
  refine run_seq ?_
  refine run_region rfl ?_
  refine ops_does rfl (guard_none rfl) rfl rfl (does_box (cs := [p0_0, p0_1]) rfl rfl rfl HM) ?_
  rintro _ w5549 ⟨b5546, rfl, HM⟩
  refine ops_ex rfl (guard_none rfl) rfl rfl (ex_assign rfl rfl) ?_
  refine ops_nil ?_
  refine at_then ?_
  refine run_seq ?_
  refine run_seq ?_
  refine run_meet (fun ρ_ w_ => ρ_ = [(1, .pointer (some ⟨b5546, 0, none⟩)), (16, .bool ((decide (60 < (x0.fTexts.length : Int))) || (decide (120 < (x0.fSigns.length : Int)))))] ∧ Mem w [] w_ [box b5546 85 [p0_0, p0_1]]) ?_ ?_
  · skip
    refine run_region rfl ?_
    refine ops_ex rfl (guard_none rfl) rfl rfl (ex_fieldAddr (off' := 0) rfl rfl Try.underlying85 rfl tsz77 rfl) ?_
    refine ops_ex rfl (guard_none rfl) rfl rfl (ex_load1 rfl rfl Try.underlying77 rfl ((HM.box_at 0 rfl) 0 _ rfl)) ?_
    refine ops_ex rfl (guard_none rfl) rfl rfl (ex_len (d := kStr) (xs := x0.fTexts) rfl rfl Try.underlying77 hp0_0) ?_
    refine ops_ex rfl (guard_none rfl) rfl rfl (ex_gtr rfl rfl rfl) ?_
    refine ops_ex rfl (guard_none rfl) rfl rfl (ex_move rfl rfl) ?_
    refine bool_cases (decide (60 < (x0.fTexts.length : Int))) (fun hg5551 => ?_) (fun hg5551 => ?_)
    · skip
      refine ops_off rfl (guard_off rfl rfl rfl hg5551) rfl rfl ?_
      refine ops_off rfl (guard_off rfl rfl rfl hg5551) rfl rfl ?_
      refine ops_off rfl (guard_off rfl rfl rfl hg5551) rfl rfl ?_
      refine ops_off rfl (guard_off rfl rfl rfl hg5551) rfl rfl ?_
      have hg5552 : ((decide (60 < (x0.fTexts.length : Int))) || (decide (120 < (x0.fSigns.length : Int)))) = true := by simp only [hg5551, Bool.and_true, Bool.true_and, Bool.and_false, Bool.false_and, Bool.or_true, Bool.true_or, Bool.or_false, Bool.false_or, Bool.not_true, Bool.not_false, Bool.not_not]
      refine ops_ex (v := .bool ((decide (60 < (x0.fTexts.length : Int))) || (decide (120 < (x0.fSigns.length : Int))))) rfl (guard_none rfl) rfl rfl (ex_por_t rfl rfl hg5551) ?_
      refine ops_nil ?_
      exact at_meet [(1, .pointer (some ⟨b5546, 0, none⟩)), (16, .bool ((decide (60 < (x0.fTexts.length : Int))) || (decide (120 < (x0.fSigns.length : Int)))))] ⟨rfl, HM⟩ (Sub.cons rfl (Sub.cons rfl Sub.nil))
    · skip
      refine ops_ex rfl (guard_on rfl rfl rfl hg5551) rfl rfl (ex_fieldAddr (off' := 1) rfl rfl Try.underlying85 rfl tsz83 rfl) ?_
      refine ops_ex rfl (guard_on rfl rfl rfl hg5551) rfl rfl (ex_load1 rfl rfl Try.underlying83 rfl ((HM.box_at 0 rfl) 1 _ rfl)) ?_
      refine ops_ex rfl (guard_on rfl rfl rfl hg5551) rfl rfl (ex_len (d := kSign) (xs := x0.fSigns) rfl rfl Try.underlying83 hp0_1) ?_
      refine ops_ex rfl (guard_on rfl rfl rfl hg5551) rfl rfl (ex_gtr rfl rfl rfl) ?_
      refine ops_ex (v := .bool ((decide (60 < (x0.fTexts.length : Int))) || (decide (120 < (x0.fSigns.length : Int))))) rfl (guard_none rfl) rfl rfl (ex_por_f rfl rfl hg5551 rfl) ?_
      refine ops_nil ?_
      exact at_meet [(1, .pointer (some ⟨b5546, 0, none⟩)), (16, .bool ((decide (60 < (x0.fTexts.length : Int))) || (decide (120 < (x0.fSigns.length : Int)))))] ⟨rfl, HM⟩ (Sub.cons rfl (Sub.cons rfl Sub.nil))
  · rintro _ w5553 ⟨rfl, HM⟩
    refine at_then ?_
    refine run_cond (b := ((decide (60 < (x0.fTexts.length : Int))) || (decide (120 < (x0.fSigns.length : Int))))) rfl (fun hb5554 => ?_) (fun hb5554 => ?_)
    · replace H := cond_t hb5554 H
      refine run_seq ?_
      refine run_region rfl ?_
      refine ops_ex rfl (guard_none rfl) rfl rfl (ex_assign rfl rfl) ?_
      refine ops_nil ?_
      refine at_then ?_
      refine run_ret ?_
      refine at_then_ret ?_
      replace HM := (HM.front 0 rfl rfl).drop
      have hR := Option.some.inj H
      subst hR
      exact at_ret1 rfl rfl ⟨_, rfl, rfl, HM⟩
    · replace H := cond_f hb5554 H
      refine run_skip ?_
      refine at_then ?_
      obtain ⟨o5604, ho5605, H⟩ := bind_some H
      refine run_mid (fun ρ_ w_ => Sum.inr () = o5604 ∧ ρ_ = [(1, .pointer (some ⟨b5546, 0, none⟩))] ∧ Mem w [] w_ [box b5546 85 [p0_0, p0_1]]) ?_ ?_
      · skip
        refine run_seq ?_
        refine run_region rfl ?_
        refine ops_ex rfl (guard_none rfl) rfl rfl (ex_fieldAddr (off' := 0) rfl rfl Try.underlying85 rfl tsz77 rfl) ?_
        refine ops_ex rfl (guard_none rfl) rfl rfl (ex_load1 rfl rfl Try.underlying77 rfl ((HM.box_at 0 rfl) 0 _ rfl)) ?_
        refine ops_ex rfl (guard_none rfl) rfl rfl (ex_len (d := kStr) (xs := x0.fTexts) rfl rfl Try.underlying77 hp0_0) ?_
        refine ops_ex rfl (guard_none rfl) rfl rfl (ex_move rfl rfl) ?_
        refine ops_nil ?_
        refine at_then ?_
        refine run_block ?_
        refine run_loop (fun k_ ρ_ w_ => ∃ a5622 : Int, impl_LedgerFault.l0 x0 k_ a5622 = some o5604 ∧ ρ_ = [(1, .pointer (some ⟨b5546, 0, none⟩)), (18, p0_0), (19, .int .i64 (x0.fTexts.length : Int)), (20, .int .i64 a5622)] ∧ Mem w [] w_ [box b5546 85 [p0_0, p0_1]]) k (ρ1 := [(1, .pointer (some ⟨b5546, 0, none⟩)), (18, p0_0), (19, .int .i64 (x0.fTexts.length : Int)), (20, .int .i64 0)]) ⟨_, ho5605, rfl, HM⟩ (Sub.cons rfl (Sub.cons rfl (Sub.cons rfl (Sub.cons rfl Sub.nil)))) ?_
        clear HM ho5605
        rintro k5639 _ w5640 ⟨a5622, ho5605, rfl, HM⟩
        obtain _ | k5639 := k5639
        · exact nomatch ((impl_LedgerFault.l0_z x0 a5622).symm.trans ho5605)
        replace ho5605 := (impl_LedgerFault.l0_s x0 k5639 a5622).symm.trans ho5605
        refine run_seq ?_
        refine run_region rfl ?_
        refine ops_ex rfl (guard_none rfl) rfl rfl (ex_lss rfl rfl rfl) ?_
        refine ops_nil ?_
        refine at_then ?_
        refine run_seq ?_
        refine run_cond (b := (decide (a5622 < (x0.fTexts.length : Int)))) rfl (fun hb5641 => ?_) (fun hb5641 => ?_)
        · replace ho5605 := cond_t hb5641 ho5605
          refine run_skip ?_
          refine at_then ?_
          refine run_seq ?_
          refine run_block ?_
          refine run_seq ?_
          obtain ⟨e5642, ho5605⟩ := chk_some ho5605
          refine run_region rfl ?_
          refine ops_ex rfl (guard_none rfl) rfl rfl (ex_move rfl rfl) ?_
          have hc5643 : CellsAt _ (sb p0_0) (so p0_0 + (a5622).toNat * 1) [(.string (gt x0.fTexts a5622))] := rd_plain hp0_0 e5642
          refine ops_ex rfl (guard_none rfl) rfl rfl (ex_indexAddr (d := kStr) rfl rfl rfl Try.underlying77 tsz9 hp0_0 (idx_lo e5642) (idx_hi e5642)) ?_
          refine ops_ex rfl (guard_none rfl) rfl rfl (ex_load1 rfl rfl Try.underlying9 rfl ((HM.at_ hc5643) 0 _ rfl)) ?_
          refine ops_ex rfl (guard_none rfl) rfl rfl (ex_assign rfl rfl) ?_
          refine ops_ex rfl (guard_none rfl) rfl rfl (ex_assign rfl rfl) ?_
          refine ops_nil ?_
          refine at_then ?_
          refine run_seq ?_
          refine run_seq ?_
          obtain ⟨t5647, h5648, ho5605⟩ := bind_some ho5605
          refine run_region rfl ?_
          refine ops_ex rfl (guard_none rfl) rfl rfl (ex_move rfl rfl) ?_
          refine ops_does rfl (guard_none rfl) rfl rfl (does_callk rfl callok97 rfl (impl_isText.calls (x0 := (gt x0.fTexts a5622)) h5648)) ?_
          rintro _ w5649 ⟨rfl, hn⟩
          replace HM : Mem w [] w5649 [box b5546 85 [p0_0, p0_1]] := HM.call hn
          refine ops_ex rfl (guard_none rfl) rfl rfl (ex_not rfl rfl) ?_
          refine ops_nil ?_
          refine at_then ?_
          refine run_cond (b := !t5647) rfl (fun hb5650 => ?_) (fun hb5650 => ?_)
          · replace ho5605 := cond_t hb5650 ho5605
            refine run_seq ?_
            refine run_region rfl ?_
            refine ops_ex rfl (guard_none rfl) rfl rfl (ex_assign rfl rfl) ?_
            refine ops_nil ?_
            refine at_then ?_
            refine run_ret ?_
            refine at_then_ret ?_
            refine at_block_ret ?_
            refine at_then_ret ?_
            refine at_then_ret ?_
            refine at_block_ret ?_
            refine at_then_ret ?_
            replace HM := (HM.front 0 rfl rfl).drop
            have hR := Option.some.inj ho5605
            subst hR
            have hT := thn_inl H
            have hR := Option.some.inj hT
            subst hR
            exact at_ret1 rfl rfl ⟨_, rfl, rfl, HM⟩
          · replace ho5605 := cond_f hb5650 ho5605
            refine run_skip ?_
            refine at_then ?_
            refine run_seq ?_
            obtain ⟨e5651, ho5605⟩ := chk_some ho5605
            obtain ⟨t5655, h5656, ho5605⟩ := bind_some ho5605
            refine run_region rfl ?_
            refine ops_ex rfl (guard_none rfl) rfl rfl (ex_fieldAddr (off' := 0) rfl rfl Try.underlying85 rfl tsz77 rfl) ?_
            refine ops_ex rfl (guard_none rfl) rfl rfl (ex_load1 rfl rfl Try.underlying77 rfl ((HM.box_at 0 rfl) 0 _ rfl)) ?_
            refine ops_ex rfl (guard_none rfl) rfl rfl (ex_move rfl rfl) ?_
            refine ops_exE rfl (guard_none rfl) rfl rfl (ex_cutH kStr rfl rfl rfl Try.underlying77 tsz9 hp0_0 e5651) ?_
            intro u5652 hr5654
            refine ops_ex rfl (guard_none rfl) rfl rfl (ex_move rfl rfl) ?_
            refine ops_does rfl (guard_none rfl) rfl rfl (does_callk rfl callok98 rfl (slices_Contains_string.calls (x0 := x0.fTexts.take (a5622).toNat) (x1 := (gt x0.fTexts a5622)) (HM.rd hr5654) h5656)) ?_
            rintro _ w5657 ⟨rfl, hn⟩
            replace HM : Mem w [] w5657 [box b5546 85 [p0_0, p0_1]] := HM.call hn
            refine ops_nil ?_
            refine at_then ?_
            refine run_cond (b := t5655) rfl (fun hb5658 => ?_) (fun hb5658 => ?_)
            · replace ho5605 := cond_t hb5658 ho5605
              refine run_seq ?_
              refine run_region rfl ?_
              refine ops_ex rfl (guard_none rfl) rfl rfl (ex_assign rfl rfl) ?_
              refine ops_nil ?_
              refine at_then ?_
              refine run_ret ?_
              refine at_block_ret ?_
              refine at_then_ret ?_
              refine at_then_ret ?_
              refine at_block_ret ?_
              refine at_then_ret ?_
              replace HM := (HM.front 0 rfl rfl).drop
              have hR := Option.some.inj ho5605
              subst hR
              have hT := thn_inl H
              have hR := Option.some.inj hT
              subst hR
              exact at_ret1 rfl rfl ⟨_, rfl, rfl, HM⟩
            · replace ho5605 := cond_f hb5658 ho5605
              refine run_skip ?_
              refine at_block ?_
              refine at_then ?_
              refine run_region rfl ?_
              refine ops_ex rfl (guard_none rfl) rfl rfl (ex_add rfl rfl rfl) ?_
              refine ops_ex rfl (guard_none rfl) rfl rfl (ex_move rfl rfl) ?_
              refine ops_nil ?_
              exact at_again k5639 (ρ1 := [(1, .pointer (some ⟨b5546, 0, none⟩)), (18, p0_0), (19, .int .i64 (x0.fTexts.length : Int)), (20, .int .i64 (wrap64 (a5622 + 1)))]) (Nat.lt_succ_self _) ⟨_, ho5605, rfl, HM⟩ (Sub.cons rfl (Sub.cons rfl (Sub.cons rfl (Sub.cons rfl Sub.nil))))
        · replace ho5605 := cond_f hb5641 ho5605
          refine run_exit ?_
          refine at_then_exit ?_
          refine at_then_exit ?_
          refine at_block_exit ?_
          exact at_mid (ρ' := [(1, .pointer (some ⟨b5546, 0, none⟩))]) ⟨(Option.some.inj ho5605), rfl, HM⟩ (Sub.cons rfl Sub.nil)
      · rintro _ w5659 ⟨rfl, rfl, HM⟩
        replace H := (thn_inr H)
        obtain ⟨o5730, ho5731, H⟩ := bind_some H
        refine run_mid (fun ρ_ w_ => Sum.inr () = o5730 ∧ ρ_ = [] ∧ Mem w [] w_ []) ?_ ?_
        · skip
          refine run_seq ?_
          refine run_region rfl ?_
          refine ops_ex rfl (guard_none rfl) rfl rfl (ex_fieldAddr (off' := 1) rfl rfl Try.underlying85 rfl tsz83 rfl) ?_
          refine ops_ex rfl (guard_none rfl) rfl rfl (ex_load1 rfl rfl Try.underlying83 rfl ((HM.box_at 0 rfl) 1 _ rfl)) ?_
          refine ops_ex rfl (guard_none rfl) rfl rfl (ex_len (d := kSign) (xs := x0.fSigns) rfl rfl Try.underlying83 hp0_1) ?_
          refine ops_ex rfl (guard_none rfl) rfl rfl (ex_move rfl rfl) ?_
          refine ops_nil ?_
          refine at_then ?_
          refine run_block ?_
          refine run_loop (fun k_ ρ_ w_ => ∃ a5755 : Int, impl_LedgerFault.l1 x0 k_ a5755 = some o5730 ∧ ρ_ = [(1, .pointer (some ⟨b5546, 0, none⟩)), (36, p0_1), (37, .int .i64 (x0.fSigns.length : Int)), (38, .int .i64 a5755)] ∧ Mem w [] w_ [box b5546 85 [p0_0, p0_1]]) k (ρ1 := [(1, .pointer (some ⟨b5546, 0, none⟩)), (36, p0_1), (37, .int .i64 (x0.fSigns.length : Int)), (38, .int .i64 0)]) ⟨_, ho5731, rfl, HM⟩ (Sub.cons rfl (Sub.cons rfl (Sub.cons rfl (Sub.cons rfl Sub.nil)))) ?_
          clear HM ho5731
          rintro k5779 _ w5780 ⟨a5755, ho5731, rfl, HM⟩
          obtain _ | k5779 := k5779
          · exact nomatch ((impl_LedgerFault.l1_z x0 a5755).symm.trans ho5731)
          replace ho5731 := (impl_LedgerFault.l1_s x0 k5779 a5755).symm.trans ho5731
          refine run_seq ?_
          refine run_region rfl ?_
          refine ops_ex rfl (guard_none rfl) rfl rfl (ex_lss rfl rfl rfl) ?_
          refine ops_nil ?_
          refine at_then ?_
          refine run_seq ?_
          refine run_cond (b := (decide (a5755 < (x0.fSigns.length : Int)))) rfl (fun hb5781 => ?_) (fun hb5781 => ?_)
          · replace ho5731 := cond_t hb5781 ho5731
            refine run_skip ?_
            refine at_then ?_
            refine run_seq ?_
            refine run_block ?_
            refine run_seq ?_
            obtain ⟨e5782, ho5731⟩ := chk_some ho5731
            refine run_region rfl ?_
            refine ops_ex rfl (guard_none rfl) rfl rfl (ex_move rfl rfl) ?_
            have hc5783 : CellsAt _ (sb p0_1) (so p0_1 + (a5755).toNat * 2) [(.int .i64 ((gt x0.fSigns a5755).fKey)), (.int .i64 ((gt x0.fSigns a5755).fId))] := rd_plain hp0_1 e5782
            refine ops_ex rfl (guard_none rfl) rfl rfl (ex_indexAddr (d := kSign) rfl rfl rfl Try.underlying83 tsz134 hp0_1 (idx_lo e5782) (idx_hi e5782)) ?_
            refine ops_ex rfl (guard_none rfl) rfl rfl (ex_loadN (cs := [(.int .i64 ((gt x0.fSigns a5755).fKey)), (.int .i64 ((gt x0.fSigns a5755).fId))]) rfl rfl Try.underlying134 rfl tsz134 rfl ((HM.at_ hc5783).sub 0 2 rfl)) ?_
            refine ops_does rfl (guard_none rfl) rfl rfl (does_alloc (cs := [.int .i64 0, .int .i64 0]) rfl tz134 rfl HM) ?_
            rintro _ w5787 ⟨b5784, rfl, HM⟩
            refine ops_ex rfl (guard_none rfl) rfl rfl (ex_assign rfl rfl) ?_
            refine ops_doesS rfl (guard_none rfl) rfl (does_store (vs := [.int .i64 ((gt x0.fSigns a5755).fKey), .int .i64 ((gt x0.fSigns a5755).fId)]) (cs' := [.int .i64 ((gt x0.fSigns a5755).fKey), .int .i64 ((gt x0.fSigns a5755).fId)]) rfl rfl rfl rfl tsz134 (Ones.int (Ones.int Ones.nil)) rfl rfl HM) ?_
            rintro w5788 HM
            refine ops_nil ?_
            refine at_then ?_
            refine run_seq ?_
            refine run_seq ?_
            obtain ⟨t5794, h5795, ho5731⟩ := bind_some ho5731
            obtain ⟨t5796, h5797, ho5731⟩ := bind_some ho5731
            refine run_meet (fun ρ_ w_ => ρ_ = [(1, .pointer (some ⟨b5546, 0, none⟩)), (36, p0_1), (37, .int .i64 (x0.fSigns.length : Int)), (38, .int .i64 a5755), (6, .pointer (some ⟨b5784, 0, none⟩)), (5, .int .i64 a5755), (55, .bool ((!t5794) || (!t5796)))] ∧ Mem w [] w_ [box b5546 85 [p0_0, p0_1], box b5784 134 [.int .i64 ((gt x0.fSigns a5755).fKey), .int .i64 ((gt x0.fSigns a5755).fId)]]) ?_ ?_
            · skip
              refine run_region rfl ?_
              refine ops_ex rfl (guard_none rfl) rfl rfl (ex_fieldAddr (off' := 0) rfl rfl Try.underlying134 rfl tsz2 rfl) ?_
              refine ops_ex rfl (guard_none rfl) rfl rfl (ex_load1 rfl rfl Try.underlying2 rfl ((HM.box_at 0 rfl) 0 _ rfl)) ?_
              refine ops_does rfl (guard_none rfl) rfl rfl (does_callk rfl callok74 rfl (impl_isKey.calls (x0 := (gt x0.fSigns a5755).fKey) h5795)) ?_
              rintro _ w5798 ⟨rfl, hn⟩
              replace HM : Mem w [] w5798 [box b5784 134 [.int .i64 ((gt x0.fSigns a5755).fKey), .int .i64 ((gt x0.fSigns a5755).fId)], box b5546 85 [p0_0, p0_1]] := HM.call hn
              refine ops_ex rfl (guard_none rfl) rfl rfl (ex_not rfl rfl) ?_
              refine ops_ex rfl (guard_none rfl) rfl rfl (ex_move rfl rfl) ?_
              refine bool_cases (!t5794) (fun hg5799 => ?_) (fun hg5799 => ?_)
              · skip
                refine ops_off rfl (guard_off rfl rfl rfl hg5799) rfl rfl ?_
                refine ops_off rfl (guard_off rfl rfl rfl hg5799) rfl rfl ?_
                refine ops_off rfl (guard_off rfl rfl rfl hg5799) rfl rfl ?_
                refine ops_off rfl (guard_off rfl rfl rfl hg5799) rfl rfl ?_
                refine ops_off rfl (guard_off rfl rfl rfl hg5799) rfl rfl ?_
                refine ops_off rfl (guard_off rfl rfl rfl hg5799) rfl rfl ?_
                refine ops_off rfl (guard_off rfl rfl rfl hg5799) rfl rfl ?_
                have hg5800 : ((!t5794) || (!t5796)) = true := by simp only [hg5799, Bool.and_true, Bool.true_and, Bool.and_false, Bool.false_and, Bool.or_true, Bool.true_or, Bool.or_false, Bool.false_or, Bool.not_true, Bool.not_false, Bool.not_not]
                refine ops_ex (v := .bool ((!t5794) || (!t5796))) rfl (guard_none rfl) rfl rfl (ex_por_t rfl rfl hg5799) ?_
                refine ops_nil ?_
                replace HM := HM.front 1 rfl rfl
                exact at_meet [(1, .pointer (some ⟨b5546, 0, none⟩)), (36, p0_1), (37, .int .i64 (x0.fSigns.length : Int)), (38, .int .i64 a5755), (6, .pointer (some ⟨b5784, 0, none⟩)), (5, .int .i64 a5755), (55, .bool ((!t5794) || (!t5796)))] ⟨rfl, HM⟩ (Sub.cons rfl (Sub.cons rfl (Sub.cons rfl (Sub.cons rfl (Sub.cons rfl (Sub.cons rfl (Sub.cons rfl Sub.nil)))))))
              · skip
                refine ops_ex rfl (guard_on rfl rfl rfl hg5799) rfl rfl (ex_fieldAddr (off' := 1) rfl rfl Try.underlying134 rfl tsz2 rfl) ?_
                refine ops_ex rfl (guard_on rfl rfl rfl hg5799) rfl rfl (ex_load1 rfl rfl Try.underlying2 rfl ((HM.box_at 0 rfl) 1 _ rfl)) ?_
                refine ops_ex rfl (guard_on rfl rfl rfl hg5799) rfl rfl (ex_fieldAddr (off' := 0) rfl rfl Try.underlying85 rfl tsz77 rfl) ?_
                refine ops_ex rfl (guard_on rfl rfl rfl hg5799) rfl rfl (ex_load1 rfl rfl Try.underlying77 rfl ((HM.box_at 1 rfl) 0 _ rfl)) ?_
                refine ops_ex rfl (guard_on rfl rfl rfl hg5799) rfl rfl (ex_len (d := kStr) (xs := x0.fTexts) rfl rfl Try.underlying77 hp0_0) ?_
                refine ops_does rfl (guard_on rfl rfl rfl hg5799) rfl rfl (does_callk rfl callok58 rfl (impl_within.calls (x0 := (gt x0.fSigns a5755).fId) (x1 := 1) (x2 := (x0.fTexts.length : Int)) (cond_t (not_mk hg5799) h5797))) ?_
                rintro _ w5801 ⟨rfl, hn⟩
                replace HM : Mem w [] w5801 [box b5784 134 [.int .i64 ((gt x0.fSigns a5755).fKey), .int .i64 ((gt x0.fSigns a5755).fId)], box b5546 85 [p0_0, p0_1]] := HM.call hn
                refine ops_ex rfl (guard_on rfl rfl rfl hg5799) rfl rfl (ex_not rfl rfl) ?_
                refine ops_ex (v := .bool ((!t5794) || (!t5796))) rfl (guard_none rfl) rfl rfl (ex_por_f rfl rfl hg5799 rfl) ?_
                refine ops_nil ?_
                replace HM := HM.front 1 rfl rfl
                exact at_meet [(1, .pointer (some ⟨b5546, 0, none⟩)), (36, p0_1), (37, .int .i64 (x0.fSigns.length : Int)), (38, .int .i64 a5755), (6, .pointer (some ⟨b5784, 0, none⟩)), (5, .int .i64 a5755), (55, .bool ((!t5794) || (!t5796)))] ⟨rfl, HM⟩ (Sub.cons rfl (Sub.cons rfl (Sub.cons rfl (Sub.cons rfl (Sub.cons rfl (Sub.cons rfl (Sub.cons rfl Sub.nil)))))))
            · rintro _ w5802 ⟨rfl, HM⟩
              refine at_then ?_
              refine run_cond (b := ((!t5794) || (!t5796))) rfl (fun hb5803 => ?_) (fun hb5803 => ?_)
              · replace ho5731 := cond_t hb5803 ho5731
                refine run_seq ?_
                refine run_region rfl ?_
                refine ops_ex rfl (guard_none rfl) rfl rfl (ex_assign rfl rfl) ?_
                refine ops_nil ?_
                refine at_then ?_
                refine run_ret ?_
                refine at_then_ret ?_
                refine at_block_ret ?_
                refine at_then_ret ?_
                refine at_then_ret ?_
                refine at_block_ret ?_
                refine at_then_ret ?_
                replace HM := (HM.front 0 rfl rfl).drop
                replace HM := (HM.front 0 rfl rfl).drop
                have hR := Option.some.inj ho5731
                subst hR
                have hT := thn_inl H
                have hR := Option.some.inj hT
                subst hR
                exact at_ret1 rfl rfl ⟨_, rfl, rfl, HM⟩
              · replace ho5731 := cond_f hb5803 ho5731
                refine run_skip ?_
                refine at_then ?_
                refine run_seq ?_
                obtain ⟨e5804, ho5731⟩ := chk_some ho5731
                obtain ⟨t5808, h5809, ho5731⟩ := bind_some ho5731
                refine run_draw (fun w_ => Mem w [] w_ [box b5546 85 [p0_0, p0_1], box b5784 134 [.int .i64 ((gt x0.fSigns a5755).fKey), .int .i64 ((gt x0.fSigns a5755).fId)]]) mixed rfl rfl ?_
                replace HM := HM.grow (fr_drew _)
                have hS := Mem.suf (M := []) HM
                refine drw_take (i := 0) (l' := #[true, false, false, false, false, false]) rfl (guard_none rfl) rfl rfl (by kernel_rfl) (fun w_ hS_ => (ex_fieldAddr (off' := 1) rfl rfl Try.underlying85 rfl tsz83 rfl)) hS ?_
                refine drw_take (i := 1) (l' := #[true, true, false, false, false, false]) rfl (guard_none rfl) rfl rfl (by kernel_rfl) (fun w_ hS_ => (ex_load1 rfl rfl Try.underlying83 rfl ((hS_.box_at 0 rfl) 1 _ rfl))) hS ?_
                refine drw_take (i := 2) (l' := #[true, true, true, false, false, false]) rfl (guard_none rfl) rfl rfl (by kernel_rfl) (fun w_ hS_ => (ex_move rfl rfl)) hS ?_
                refine drw_takeE (i := 3) (l' := #[true, true, true, true, false, false]) rfl (guard_none rfl) rfl rfl (by kernel_rfl) (ex_cutH kSign rfl rfl rfl Try.underlying83 tsz134 hp0_1 e5804) hS ?_
                intro u5805 hr5807
                refine drw_take (i := 4) (l' := #[true, true, true, true, true, false]) rfl (guard_none rfl) rfl rfl (by kernel_rfl) (fun w_ hS_ => (ex_loadN (cs := [(.int .i64 ((gt x0.fSigns a5755).fKey)), (.int .i64 ((gt x0.fSigns a5755).fId))]) rfl rfl Try.underlying134 rfl tsz134 rfl ((hS_.box_at 1 rfl).sub 0 2 rfl))) hS ?_
                refine drw_one (i := 5) (l' := #[true, true, true, true, true, true]) rfl (guard_none rfl) rfl rfl (by kernel_rfl) (does_callk rfl callok99 rfl (slices_Contains_impl_Sign.calls (x0 := x0.fSigns.take (a5755).toNat) (x1 := (gt x0.fSigns a5755)) (HM.rd hr5807) h5809)) ?_
                rintro _ w5810 ⟨rfl, hn⟩
                replace HM : Mem w [] w5810 [box b5546 85 [p0_0, p0_1], box b5784 134 [.int .i64 ((gt x0.fSigns a5755).fKey), .int .i64 ((gt x0.fSigns a5755).fId)]] := HM.call hn
                refine ⟨Mem.suf (M := []) HM, ?_⟩
                have hS := Mem.suf (M := []) HM
                refine drw_done (by kernel_rfl) ?_
                refine at_then ?_
                refine run_cond (b := t5808) rfl (fun hb5811 => ?_) (fun hb5811 => ?_)
                · replace ho5731 := cond_t hb5811 ho5731
                  refine run_seq ?_
                  refine run_region rfl ?_
                  refine ops_ex rfl (guard_none rfl) rfl rfl (ex_assign rfl rfl) ?_
                  refine ops_nil ?_
                  refine at_then ?_
                  refine run_ret ?_
                  refine at_block_ret ?_
                  refine at_then_ret ?_
                  refine at_then_ret ?_
                  refine at_block_ret ?_
                  refine at_then_ret ?_
                  replace HM := (HM.front 0 rfl rfl).drop
                  replace HM := (HM.front 0 rfl rfl).drop
                  have hR := Option.some.inj ho5731
                  subst hR
                  have hT := thn_inl H
                  have hR := Option.some.inj hT
                  subst hR
                  exact at_ret1 rfl rfl ⟨_, rfl, rfl, HM⟩
                · replace ho5731 := cond_f hb5811 ho5731
                  refine run_skip ?_
                  refine at_block ?_
                  refine at_then ?_
                  refine run_region rfl ?_
                  refine ops_ex rfl (guard_none rfl) rfl rfl (ex_add rfl rfl rfl) ?_
                  refine ops_ex rfl (guard_none rfl) rfl rfl (ex_move rfl rfl) ?_
                  refine ops_nil ?_
                  replace HM := (HM.front 1 rfl rfl).drop
                  exact at_again k5779 (ρ1 := [(1, .pointer (some ⟨b5546, 0, none⟩)), (36, p0_1), (37, .int .i64 (x0.fSigns.length : Int)), (38, .int .i64 (wrap64 (a5755 + 1)))]) (Nat.lt_succ_self _) ⟨_, ho5731, rfl, HM⟩ (Sub.cons rfl (Sub.cons rfl (Sub.cons rfl (Sub.cons rfl Sub.nil))))
          · replace ho5731 := cond_f hb5781 ho5731
            refine run_exit ?_
            refine at_then_exit ?_
            refine at_then_exit ?_
            refine at_block_exit ?_
            replace HM := (HM.front 0 rfl rfl).drop
            exact at_mid (ρ' := []) ⟨(Option.some.inj ho5731), rfl, HM⟩ Sub.nil
        · rintro _ w5812 ⟨rfl, rfl, HM⟩
          replace H := (thn_inr H)
          refine run_seq ?_
          refine run_region rfl ?_
          refine ops_ex rfl (guard_none rfl) rfl rfl (ex_assign rfl rfl) ?_
          refine ops_nil ?_
          refine at_then ?_
          refine run_ret ?_
          have hR := Option.some.inj H
          subst hR
          exact at_ret1 rfl rfl ⟨_, rfl, rfl, HM⟩

def laws_eqStringS.l0 (x0 : List ByteArray) (x1 : List ByteArray) : Nat → Int → Option (Bool ⊕ Unit)
  | 0, _ => none
  | k + 1, a5881 => (bif (decide (a5881 < (x0.length : Int))) then (chk (idxOk a5881 x0.length) (chk (idxOk a5881 x1.length) (bif (!sEq (gt x0 a5881) (gt x1 a5881)) then some (.inl false) else laws_eqStringS.l0 x0 x1 k (wrap64 (a5881 + 1))))) else some (.inr ()))
theorem laws_eqStringS.l0_z (x0 : List ByteArray) (x1 : List ByteArray) (a5881 : Int) : laws_eqStringS.l0 x0 x1 0 a5881 = none := rfl
theorem laws_eqStringS.l0_s (x0 : List ByteArray) (x1 : List ByteArray) (k : Nat) (a5881 : Int) : laws_eqStringS.l0 x0 x1 (k + 1) a5881 = (bif (decide (a5881 < (x0.length : Int))) then (chk (idxOk a5881 x0.length) (chk (idxOk a5881 x1.length) (bif (!sEq (gt x0 a5881) (gt x1 a5881)) then some (.inl false) else laws_eqStringS.l0 x0 x1 k (wrap64 (a5881 + 1))))) else some (.inr ())) := rfl
def laws_eqStringS.f (k : Nat) (x0 : List ByteArray) (x1 : List ByteArray) : Option Bool := (bif ((x0.length : Int) != (x1.length : Int)) then some false else ((laws_eqStringS.l0 x0 x1 k 0).bind fun o5873 => thn o5873 (fun r => some r) (fun _ => some true)))
theorem laws_eqStringS.calls {k : Nat} {x0 : List ByteArray} {x1 : List ByteArray} {p0 : Value} {p1 : Value} {w : World} (hp0 : RdS kStr w p0 x0) (hp1 : RdS kStr w p1 x1) {r : Bool} (H : laws_eqStringS.f k x0 x1 = some r) :
    Calls Try.prog 100 ([p0, p1] : List Value).toArray w (fun e w_ => ∃ v, e = .returned v ∧ v = (.bool r) ∧ Mem w [] w_ []) := by
  have HM := Mem.start w
  refine calls_run (N := 26) Try.func100 rfl rfl rfl rfl ?_
  unfold laws_eqStringS.f at H
  refine run_seq ?_
  refine run_region rfl ?_
  refine ops_ex rfl (guard_none rfl) rfl rfl (ex_assign rfl rfl) ?_
  refine ops_nil ?_
  refine at_then ?_
  refine run_seq ?_
  refine run_seq ?_
  refine run_region rfl ?_
  refine ops_ex rfl (guard_none rfl) rfl rfl (ex_move rfl rfl) ?_
  refine ops_ex rfl (guard_none rfl) rfl rfl (ex_len (d := kStr) (xs := x0) rfl rfl Try.underlying77 hp0) ?_
  refine ops_ex rfl (guard_none rfl) rfl rfl (ex_move rfl rfl) ?_
  refine ops_ex rfl (guard_none rfl) rfl rfl (ex_len (d := kStr) (xs := x1) rfl rfl Try.underlying77 hp1) ?_
  refine ops_ex rfl (guard_none rfl) rfl rfl (ex_neq rfl rfl rfl) ?_
  refine ops_nil ?_
  refine at_then ?_
  refine run_cond (b := ((x0.length : Int) != (x1.length : Int))) rfl (fun hb5853 => ?_) (fun hb5853 => ?_)
  · replace H := cond_t hb5853 H
    refine run_seq ?_
    refine run_region rfl ?_
    refine ops_ex rfl (guard_none rfl) rfl rfl (ex_assign rfl rfl) ?_
    refine ops_nil ?_
    refine at_then ?_
    refine run_ret ?_
    refine at_then_ret ?_
    have hR := Option.some.inj H
    subst hR
    exact at_ret1 rfl rfl ⟨_, rfl, rfl, HM⟩
  · replace H := cond_f hb5853 H
    refine run_skip ?_
    refine at_then ?_
    obtain ⟨o5873, ho5874, H⟩ := bind_some H
    refine run_mid (fun ρ_ w_ => Sum.inr () = o5873 ∧ ρ_ = [] ∧ Mem w [] w_ []) ?_ ?_
    · skip
      refine run_seq ?_
      refine run_region rfl ?_
      refine ops_ex rfl (guard_none rfl) rfl rfl (ex_assign rfl rfl) ?_
      refine ops_nil ?_
      refine at_then ?_
      refine run_block ?_
      refine run_loop (fun k_ ρ_ w_ => ∃ a5881 : Int, laws_eqStringS.l0 x0 x1 k_ a5881 = some o5873 ∧ ρ_ = [(0, p0), (1, p1), (5, .int .i64 a5881)] ∧ Mem w [] w_ []) k (ρ1 := [(0, p0), (1, p1), (5, .int .i64 0)]) ⟨_, ho5874, rfl, HM⟩ (Sub.cons rfl (Sub.cons rfl (Sub.cons rfl Sub.nil))) ?_
      clear HM ho5874
      rintro k5888 _ w5889 ⟨a5881, ho5874, rfl, HM⟩
      obtain _ | k5888 := k5888
      · exact nomatch ((laws_eqStringS.l0_z x0 x1 a5881).symm.trans ho5874)
      replace ho5874 := (laws_eqStringS.l0_s x0 x1 k5888 a5881).symm.trans ho5874
      refine run_seq ?_
      refine run_seq ?_
      refine run_region rfl ?_
      refine ops_ex rfl (guard_none rfl) rfl rfl (ex_move rfl rfl) ?_
      refine ops_ex rfl (guard_none rfl) rfl rfl (ex_move rfl rfl) ?_
      refine ops_ex rfl (guard_none rfl) rfl rfl (ex_len (d := kStr) (xs := x0) rfl rfl Try.underlying77 hp0) ?_
      refine ops_ex rfl (guard_none rfl) rfl rfl (ex_lss rfl rfl rfl) ?_
      refine ops_nil ?_
      refine at_then ?_
      refine run_cond (b := (decide (a5881 < (x0.length : Int)))) rfl (fun hb5890 => ?_) (fun hb5890 => ?_)
      · replace ho5874 := cond_t hb5890 ho5874
        refine run_skip ?_
        refine at_then ?_
        refine run_seq ?_
        refine run_block ?_
        refine run_seq ?_
        obtain ⟨e5891, ho5874⟩ := chk_some ho5874
        obtain ⟨e5893, ho5874⟩ := chk_some ho5874
        refine run_draw (fun w_ => Mem w [] w_ []) mixed rfl rfl ?_
        replace HM := HM.grow (fr_drew _)
        have hS := Mem.suf (M := []) HM
        refine drw_take (i := 0) (l' := #[true, false, false, false, false, false, false, false, false]) rfl (guard_none rfl) rfl rfl (by kernel_rfl) (fun w_ hS_ => (ex_move rfl rfl)) hS ?_
        refine drw_take (i := 1) (l' := #[true, true, false, false, false, false, false, false, false]) rfl (guard_none rfl) rfl rfl (by kernel_rfl) (fun w_ hS_ => (ex_move rfl rfl)) hS ?_
        have hc5892 : CellsAt _ (sb p0) (so p0 + (a5881).toNat * 1) [(.string (gt x0 a5881))] := rd_plain hp0 e5891
        refine drw_take (i := 2) (l' := #[true, true, true, false, false, false, false, false, false]) rfl (guard_none rfl) rfl rfl (by kernel_rfl) (fun w_ hS_ => (ex_indexAddr (d := kStr) rfl rfl rfl Try.underlying77 tsz9 hp0 (idx_lo e5891) (idx_hi e5891))) hS ?_
        refine drw_take (i := 3) (l' := #[true, true, true, true, false, false, false, false, false]) rfl (guard_none rfl) rfl rfl (by kernel_rfl) (fun w_ hS_ => (ex_load1 rfl rfl Try.underlying9 rfl ((hS_.at_ hc5892) 0 _ rfl))) hS ?_
        refine drw_take (i := 4) (l' := #[true, true, true, true, true, false, false, false, false]) rfl (guard_none rfl) rfl rfl (by kernel_rfl) (fun w_ hS_ => (ex_move rfl rfl)) hS ?_
        refine drw_take (i := 5) (l' := #[true, true, true, true, true, true, false, false, false]) rfl (guard_none rfl) rfl rfl (by kernel_rfl) (fun w_ hS_ => (ex_move rfl rfl)) hS ?_
        have hc5894 : CellsAt _ (sb p1) (so p1 + (a5881).toNat * 1) [(.string (gt x1 a5881))] := rd_plain hp1 e5893
        refine drw_take (i := 6) (l' := #[true, true, true, true, true, true, true, false, false]) rfl (guard_none rfl) rfl rfl (by kernel_rfl) (fun w_ hS_ => (ex_indexAddr (d := kStr) rfl rfl rfl Try.underlying77 tsz9 hp1 (idx_lo e5893) (idx_hi e5893))) hS ?_
        refine drw_take (i := 7) (l' := #[true, true, true, true, true, true, true, true, false]) rfl (guard_none rfl) rfl rfl (by kernel_rfl) (fun w_ hS_ => (ex_load1 rfl rfl Try.underlying9 rfl ((hS_.at_ hc5894) 0 _ rfl))) hS ?_
        refine drw_take (i := 8) (l' := #[true, true, true, true, true, true, true, true, true]) rfl (guard_none rfl) rfl rfl (by kernel_rfl) (fun w_ hS_ => (ex_sneq rfl rfl rfl)) hS ?_
        refine drw_done (by kernel_rfl) ?_
        refine at_then ?_
        refine run_cond (b := (!sEq (gt x0 a5881) (gt x1 a5881))) rfl (fun hb5895 => ?_) (fun hb5895 => ?_)
        · replace ho5874 := cond_t hb5895 ho5874
          refine run_seq ?_
          refine run_region rfl ?_
          refine ops_ex rfl (guard_none rfl) rfl rfl (ex_assign rfl rfl) ?_
          refine ops_nil ?_
          refine at_then ?_
          refine run_ret ?_
          refine at_block_ret ?_
          refine at_then_ret ?_
          refine at_then_ret ?_
          refine at_block_ret ?_
          refine at_then_ret ?_
          have hR := Option.some.inj ho5874
          subst hR
          have hT := thn_inl H
          have hR := Option.some.inj hT
          subst hR
          exact at_ret1 rfl rfl ⟨_, rfl, rfl, HM⟩
        · replace ho5874 := cond_f hb5895 ho5874
          refine run_skip ?_
          refine at_block ?_
          refine at_then ?_
          refine run_region rfl ?_
          refine ops_ex rfl (guard_none rfl) rfl rfl (ex_move rfl rfl) ?_
          refine ops_ex rfl (guard_none rfl) rfl rfl (ex_add rfl rfl rfl) ?_
          refine ops_ex rfl (guard_none rfl) rfl rfl (ex_assign rfl rfl) ?_
          refine ops_nil ?_
          exact at_again k5888 (ρ1 := [(0, p0), (1, p1), (5, .int .i64 (wrap64 (a5881 + 1)))]) (Nat.lt_succ_self _) ⟨_, ho5874, rfl, HM⟩ (Sub.cons rfl (Sub.cons rfl (Sub.cons rfl Sub.nil)))
      · replace ho5874 := cond_f hb5890 ho5874
        refine run_exit ?_
        refine at_then_exit ?_
        refine at_then_exit ?_
        refine at_block_exit ?_
        exact at_mid (ρ' := []) ⟨(Option.some.inj ho5874), rfl, HM⟩ Sub.nil
    · rintro _ w5896 ⟨rfl, rfl, HM⟩
      replace H := (thn_inr H)
      refine run_seq ?_
      refine run_region rfl ?_
      refine ops_ex rfl (guard_none rfl) rfl rfl (ex_assign rfl rfl) ?_
      refine ops_nil ?_
      refine at_then ?_
      refine run_ret ?_
      have hR := Option.some.inj H
      subst hR
      exact at_ret1 rfl rfl ⟨_, rfl, rfl, HM⟩

def laws_eqSign.f (k : Nat) (x0 : Sign) (x1 : Sign) : Option Bool := (bif (x0.fKey != x1.fKey) then some false else (bif (x0.fId != x1.fId) then some false else some true))
theorem laws_eqSign.calls {k : Nat} {x0 : Sign} {x1 : Sign}  {w : World}  {r : Bool} (H : laws_eqSign.f k x0 x1 = some r) :
    Calls Try.prog 119 ([.agg #[(.int .i64 x0.fKey), (.int .i64 x0.fId)], .agg #[(.int .i64 x1.fKey), (.int .i64 x1.fId)]] : List Value).toArray w (fun e w_ => ∃ v, e = .returned v ∧ v = (.bool r) ∧ Mem w [] w_ []) := by
  have HM := Mem.start w
  refine calls_run (N := 15) Try.func119 rfl rfl rfl rfl ?_
  unfold laws_eqSign.f at H
  refine run_seq ?_
  refine run_region rfl ?_
  refine ops_does rfl (guard_none rfl) rfl rfl (does_box (cs := [.int .i64 x0.fKey, .int .i64 x0.fId]) rfl rfl rfl HM) ?_
  rintro _ w5925 ⟨b5919, rfl, HM⟩
  refine ops_does rfl (guard_none rfl) rfl rfl (does_box (cs := [.int .i64 x1.fKey, .int .i64 x1.fId]) rfl rfl rfl HM) ?_
  rintro _ w5926 ⟨b5922, rfl, HM⟩
  refine ops_ex rfl (guard_none rfl) rfl rfl (ex_assign rfl rfl) ?_
  refine ops_nil ?_
  refine at_then ?_
  refine run_seq ?_
  refine run_seq ?_
  refine run_region rfl ?_
  refine ops_ex rfl (guard_none rfl) rfl rfl (ex_fieldAddr (off' := 0) rfl rfl Try.underlying134 rfl tsz2 rfl) ?_
  refine ops_ex rfl (guard_none rfl) rfl rfl (ex_load1 rfl rfl Try.underlying2 rfl ((HM.box_at 1 rfl) 0 _ rfl)) ?_
  refine ops_ex rfl (guard_none rfl) rfl rfl (ex_fieldAddr (off' := 0) rfl rfl Try.underlying134 rfl tsz2 rfl) ?_
  refine ops_ex rfl (guard_none rfl) rfl rfl (ex_load1 rfl rfl Try.underlying2 rfl ((HM.box_at 0 rfl) 0 _ rfl)) ?_
  refine ops_ex rfl (guard_none rfl) rfl rfl (ex_neq rfl rfl rfl) ?_
  refine ops_nil ?_
  refine at_then ?_
  refine run_cond (b := (x0.fKey != x1.fKey)) rfl (fun hb5928 => ?_) (fun hb5928 => ?_)
  · replace H := cond_t hb5928 H
    refine run_seq ?_
    refine run_region rfl ?_
    refine ops_ex rfl (guard_none rfl) rfl rfl (ex_assign rfl rfl) ?_
    refine ops_nil ?_
    refine at_then ?_
    refine run_ret ?_
    refine at_then_ret ?_
    replace HM := (HM.front 0 rfl rfl).drop
    replace HM := (HM.front 0 rfl rfl).drop
    have hR := Option.some.inj H
    subst hR
    exact at_ret1 rfl rfl ⟨_, rfl, rfl, HM⟩
  · replace H := cond_f hb5928 H
    refine run_skip ?_
    refine at_then ?_
    refine run_seq ?_
    refine run_seq ?_
    refine run_region rfl ?_
    refine ops_ex rfl (guard_none rfl) rfl rfl (ex_fieldAddr (off' := 1) rfl rfl Try.underlying134 rfl tsz2 rfl) ?_
    refine ops_ex rfl (guard_none rfl) rfl rfl (ex_load1 rfl rfl Try.underlying2 rfl ((HM.box_at 1 rfl) 1 _ rfl)) ?_
    refine ops_ex rfl (guard_none rfl) rfl rfl (ex_fieldAddr (off' := 1) rfl rfl Try.underlying134 rfl tsz2 rfl) ?_
    refine ops_ex rfl (guard_none rfl) rfl rfl (ex_load1 rfl rfl Try.underlying2 rfl ((HM.box_at 0 rfl) 1 _ rfl)) ?_
    refine ops_ex rfl (guard_none rfl) rfl rfl (ex_neq rfl rfl rfl) ?_
    refine ops_nil ?_
    refine at_then ?_
    refine run_cond (b := (x0.fId != x1.fId)) rfl (fun hb5929 => ?_) (fun hb5929 => ?_)
    · replace H := cond_t hb5929 H
      refine run_seq ?_
      refine run_region rfl ?_
      refine ops_ex rfl (guard_none rfl) rfl rfl (ex_assign rfl rfl) ?_
      refine ops_nil ?_
      refine at_then ?_
      refine run_ret ?_
      refine at_then_ret ?_
      replace HM := (HM.front 0 rfl rfl).drop
      replace HM := (HM.front 0 rfl rfl).drop
      have hR := Option.some.inj H
      subst hR
      exact at_ret1 rfl rfl ⟨_, rfl, rfl, HM⟩
    · replace H := cond_f hb5929 H
      refine run_skip ?_
      refine at_then ?_
      refine run_seq ?_
      refine run_region rfl ?_
      refine ops_ex rfl (guard_none rfl) rfl rfl (ex_assign rfl rfl) ?_
      refine ops_nil ?_
      refine at_then ?_
      refine run_ret ?_
      replace HM := (HM.front 0 rfl rfl).drop
      replace HM := (HM.front 0 rfl rfl).drop
      have hR := Option.some.inj H
      subst hR
      exact at_ret1 rfl rfl ⟨_, rfl, rfl, HM⟩
end Go.Proofs.Ytkofpnbacgccnaa.Zk
