/- What functions of the program compute, each as a plain function, and that they do. Conditions: as each theorem states them. -/
import Derived.Test.YtpfaihnmonfkhaaGreatDoorCheckTxZkF6
namespace Go.Proofs.YtpfaihnmonfkhaaGreatDoor.Zk
open Go Go.RowKit Go.IntWalk Go.Proofs
set_option linter.unusedVariables false
set_option linter.unusedSimpArgs false
set_option maxRecDepth 100000
set_option maxHeartbeats 4000000
def impl_isId.f (k : Nat) (x0 : Int) : Option Bool := ((impl_within.f k x0 1 60).bind fun t5423 => some t5423)
theorem impl_isId.calls {k : Nat} {x0 : Int}  {w : World}  {r : Bool} (H : impl_isId.f k x0 = some r) :
  Calls Tryz.prog 93 ([.int .i64 x0] : List Value).toArray w (fun e w_ => ∃ v, e = .returned v ∧ v = (.bool r) ∧ Mem w [] w_ []) := by
 have HM := Mem.start w
 refine calls_run (N := 5) Tryz.func93 rfl rfl rfl rfl ?_
 unfold impl_isId.f at H
 refine run_seq ?_
 refine run_region rfl ?_
 refine ox rfl rfl rfl rfl (ex_assign rfl rfl) ?_
 refine ops_nil (at_then (run_seq ?_))
 obtain ⟨t5423, h5424, H⟩ := bind_some H
 refine run_region rfl ?_
 refine ox rfl rfl rfl rfl (ex_move rfl rfl) ?_
 refine od rfl rfl rfl rfl (does_callk rfl callok65 rfl (impl_within.calls (x0 := x0) (x1 := 1) (x2 := 60) h5424)) ?_
 rintro _ w5425 ⟨rfl, hn⟩
 replace HM : Mem w [] w5425 [] := HM.call hn
 refine ox rfl rfl rfl rfl (ex_assign rfl rfl) ?_
 refine ops_nil (at_then ?_)
 refine run_ret ?_
 have hR := Option.some.inj H
 subst hR
 exact at_ret1 rfl rfl ⟨_, rfl, rfl, HM⟩

def impl_isRef.f (k : Nat) (x0 : Ref) : Option Bool := ((impl_isId.f k x0.fTx).bind fun t5434 => ((bif t5434 then impl_within.f k x0.fAt 0 3 else some default).bind fun t5436 => some (t5434 && t5436)))
theorem impl_isRef.calls {k : Nat} {x0 : Ref}  {w : World}  {r : Bool} (H : impl_isRef.f k x0 = some r) :
  Calls Tryz.prog 67 ([.agg #[(.int .i64 x0.fTx), (.int .i64 x0.fAt)]] : List Value).toArray w (fun e w_ => ∃ v, e = .returned v ∧ v = (.bool r) ∧ Mem w [] w_ []) := by
 have HM := Mem.start w
 refine calls_run (N := 11) Tryz.func67 rfl rfl rfl rfl ?_
 unfold impl_isRef.f at H
 refine run_seq ?_
 refine run_region rfl ?_
 refine od rfl rfl rfl rfl (does_box (cs := [.int .i64 x0.fTx, .int .i64 x0.fAt]) rfl rfl rfl HM) ?_
 rintro _ w5433 ⟨b5430, rfl, HM⟩
 refine ox rfl rfl rfl rfl (ex_assign rfl rfl) ?_
 refine ops_nil (at_then (run_seq ?_))
 obtain ⟨t5434, h5435, H⟩ := bind_some H
 obtain ⟨t5436, h5437, H⟩ := bind_some H
 refine run_meet (fun ρ_ w_ => ρ_ = [(2, .bool (t5434 && t5436))] ∧ Mem w [] w_ []) ?_ ?_
 ·skip
  refine run_region rfl ?_
  refine ox rfl rfl rfl rfl (ex_fieldAddr (off' := 0) rfl rfl Tryz.underlying81 rfl tsz2 rfl) ?_
  refine ox rfl rfl rfl rfl (ex_load1 rfl rfl Tryz.underlying2 rfl ((HM.box_at 0 rfl) 0 _ rfl)) ?_
  refine od rfl rfl rfl rfl (does_callk rfl callok93 rfl (impl_isId.calls (x0 := x0.fTx) h5435)) ?_
  rintro _ w5438 ⟨rfl, hn⟩
  replace HM : Mem w [] w5438 [box b5430 81 [.int .i64 x0.fTx, .int .i64 x0.fAt]] := HM.call hn
  refine ox rfl rfl rfl rfl (ex_move rfl rfl) ?_
  refine bool_cases t5434 (fun hg5439 => ?_) (fun hg5439 => ?_)
  ·skip
   refine ops_ex rfl (guard_on rfl rfl rfl hg5439) rfl rfl (ex_fieldAddr (off' := 1) rfl rfl Tryz.underlying81 rfl tsz2 rfl) ?_
   refine ops_ex rfl (guard_on rfl rfl rfl hg5439) rfl rfl (ex_load1 rfl rfl Tryz.underlying2 rfl ((HM.box_at 0 rfl) 1 _ rfl)) ?_
   refine ops_does rfl (guard_on rfl rfl rfl hg5439) rfl rfl (does_callk rfl callok65 rfl (impl_within.calls (x0 := x0.fAt) (x1 := 0) (x2 := 3) (cond_t hg5439 h5437))) ?_
   rintro _ w5440 ⟨rfl, hn⟩
   replace HM : Mem w [] w5440 [box b5430 81 [.int .i64 x0.fTx, .int .i64 x0.fAt]] := HM.call hn
   refine ops_ex (v := .bool (t5434 && t5436)) rfl (guard_none rfl) rfl rfl (ex_pand_t rfl rfl hg5439 rfl) ?_
   refine ox rfl rfl rfl rfl (ex_assign rfl rfl) ?_
   refine ops_nil ?_
   replace HM := (HM.front 0 rfl rfl).drop
   exact at_meet [(2, .bool (t5434 && t5436))] ⟨rfl, HM⟩ (Sub.cons rfl Sub.nil)
  ·skip
   refine ops_off rfl (guard_off rfl rfl rfl hg5439) rfl rfl ?_
   refine ops_off rfl (guard_off rfl rfl rfl hg5439) rfl rfl ?_
   refine ops_off rfl (guard_off rfl rfl rfl hg5439) rfl rfl ?_
   have hg5441 : (t5434 && t5436) = false := by simp only [hg5439, Bool.and_true, Bool.true_and, Bool.and_false, Bool.false_and, Bool.or_true, Bool.true_or, Bool.or_false, Bool.false_or, Bool.not_true, Bool.not_false, Bool.not_not]
   refine ops_ex (v := .bool (t5434 && t5436)) rfl (guard_none rfl) rfl rfl (ex_pand_f rfl rfl hg5439) ?_
   refine ox rfl rfl rfl rfl (ex_assign rfl rfl) ?_
   refine ops_nil ?_
   replace HM := (HM.front 0 rfl rfl).drop
   exact at_meet [(2, .bool (t5434 && t5436))] ⟨rfl, HM⟩ (Sub.cons rfl Sub.nil)
 ·rintro _ w5442 ⟨rfl, HM⟩
  refine at_then ?_
  refine run_ret ?_
  have hR := Option.some.inj H
  subst hR
  exact at_ret1 rfl rfl ⟨_, rfl, rfl, HM⟩

def impl_isHeight.f (k : Nat) (x0 : Int) : Option Bool := ((impl_within.f k x0 0 999).bind fun t5447 => some t5447)
theorem impl_isHeight.calls {k : Nat} {x0 : Int}  {w : World}  {r : Bool} (H : impl_isHeight.f k x0 = some r) :
  Calls Tryz.prog 36 ([.int .i64 x0] : List Value).toArray w (fun e w_ => ∃ v, e = .returned v ∧ v = (.bool r) ∧ Mem w [] w_ []) := by
 have HM := Mem.start w
 refine calls_run (N := 5) Tryz.func36 rfl rfl rfl rfl ?_
 unfold impl_isHeight.f at H
 refine run_seq ?_
 refine run_region rfl ?_
 refine ox rfl rfl rfl rfl (ex_assign rfl rfl) ?_
 refine ops_nil (at_then (run_seq ?_))
 obtain ⟨t5447, h5448, H⟩ := bind_some H
 refine run_region rfl ?_
 refine ox rfl rfl rfl rfl (ex_move rfl rfl) ?_
 refine od rfl rfl rfl rfl (does_callk rfl callok65 rfl (impl_within.calls (x0 := x0) (x1 := 0) (x2 := 999) h5448)) ?_
 rintro _ w5449 ⟨rfl, hn⟩
 replace HM : Mem w [] w5449 [] := HM.call hn
 refine ox rfl rfl rfl rfl (ex_assign rfl rfl) ?_
 refine ops_nil (at_then ?_)
 refine run_ret ?_
 have hR := Option.some.inj H
 subst hR
 exact at_ret1 rfl rfl ⟨_, rfl, rfl, HM⟩

def impl_areKeys_1.f (k : Nat) (x0 : Int) : Option Bool := ((impl_isKey.f k x0).bind fun t5473 => some (!t5473))
theorem impl_areKeys_1.calls {k : Nat} {x0 : Int}  {w : World}  {r : Bool} (H : impl_areKeys_1.f k x0 = some r) :
  Calls Tryz.prog 111 ([.int .i64 x0] : List Value).toArray w (fun e w_ => ∃ v, e = .returned v ∧ v = (.bool r) ∧ Mem w [] w_ []) := by
 have HM := Mem.start w
 refine calls_run (N := 6) Tryz.func111 rfl rfl rfl rfl ?_
 unfold impl_areKeys_1.f at H
 refine run_seq ?_
 refine run_region rfl ?_
 refine ox rfl rfl rfl rfl (ex_assign rfl rfl) ?_
 refine ops_nil (at_then (run_seq ?_))
 obtain ⟨t5473, h5474, H⟩ := bind_some H
 refine run_region rfl ?_
 refine ox rfl rfl rfl rfl (ex_move rfl rfl) ?_
 refine od rfl rfl rfl rfl (does_callk rfl callok64 rfl (impl_isKey.calls (x0 := x0) h5474)) ?_
 rintro _ w5475 ⟨rfl, hn⟩
 replace HM : Mem w [] w5475 [] := HM.call hn
 refine ox rfl rfl rfl rfl (ex_not rfl rfl) ?_
 refine ox rfl rfl rfl rfl (ex_assign rfl rfl) ?_
 refine ops_nil (at_then ?_)
 refine run_ret ?_
 have hR := Option.some.inj H
 subst hR
 exact at_ret1 rfl rfl ⟨_, rfl, rfl, HM⟩

def slices_IndexFunc_int64.l0 (x0 : List Int) : Nat → Int → Option (Int ⊕ Unit)
 | 0, _ => none
 | k + 1, a5521 => (bif (decide (a5521 < (x0.length : Int))) then (chk (idxOk a5521 x0.length) ((impl_areKeys_1.f k (gt x0 a5521)).bind fun t5533 => (bif t5533 then some (.inl a5521) else slices_IndexFunc_int64.l0 x0 k (wrap64 (a5521 + 1))))) else some (.inr ()))
theorem slices_IndexFunc_int64.l0_z (x0 : List Int) (a5521 : Int) : slices_IndexFunc_int64.l0 x0 0 a5521 = none := rfl
theorem slices_IndexFunc_int64.l0_s (x0 : List Int) (k : Nat) (a5521 : Int) : slices_IndexFunc_int64.l0 x0 (k + 1) a5521 = (bif (decide (a5521 < (x0.length : Int))) then (chk (idxOk a5521 x0.length) ((impl_areKeys_1.f k (gt x0 a5521)).bind fun t5533 => (bif t5533 then some (.inl a5521) else slices_IndexFunc_int64.l0 x0 k (wrap64 (a5521 + 1))))) else some (.inr ())) := rfl
def slices_IndexFunc_int64.f (k : Nat) (x0 : List Int) : Option Int := ((slices_IndexFunc_int64.l0 x0 k 0).bind fun o5513 => thn o5513 (fun r => some r) (fun _ => some (-1)))
theorem slices_IndexFunc_int64.calls {k : Nat} {x0 : List Int} {p0 : Value} {w : World} (hp0 : RdS kInt w p0 x0) {r : Int} (H : slices_IndexFunc_int64.f k x0 = some r) :
  Calls Tryz.prog 124 ([p0, .func (.func 111) #[] #[]] : List Value).toArray w (fun e w_ => ∃ v, e = .returned v ∧ v = (.int .i64 r) ∧ Mem w [] w_ []) := by
 have HM := Mem.start w
 refine calls_run (N := 19) Tryz.func124 rfl rfl rfl rfl ?_
 unfold slices_IndexFunc_int64.f at H
 refine run_seq ?_
 refine run_region rfl ?_
 refine ox rfl rfl rfl rfl (ex_assign rfl rfl) ?_
 refine ops_nil (at_then ?_)
 obtain ⟨o5513, ho5514, H⟩ := bind_some H
 refine run_mid (fun ρ_ w_ => Sum.inr () = o5513 ∧ ρ_ = [] ∧ Mem w [] w_ []) ?_ ?_
 ·skip
  refine run_seq ?_
  refine run_region rfl ?_
  refine ox rfl rfl rfl rfl (ex_move rfl rfl) ?_
  refine ox rfl rfl rfl rfl (ex_len (d := kInt) (xs := x0) rfl rfl Tryz.underlying58 hp0) ?_
  refine ox rfl rfl rfl rfl (ex_move rfl rfl) ?_
  refine ops_nil (at_then ?_)
  refine run_block ?_
  refine run_loop (fun k_ ρ_ w_ => ∃ a5521 : Int, slices_IndexFunc_int64.l0 x0 k_ a5521 = some o5513 ∧ ρ_ = [(0, p0), (1, .func (.func 111) #[] #[]), (7, .int .i64 (x0.length : Int)), (8, .int .i64 a5521)] ∧ Mem w [] w_ []) k (ρ1 := [(0, p0), (1, .func (.func 111) #[] #[]), (7, .int .i64 (x0.length : Int)), (8, .int .i64 0)]) ⟨_, ho5514, rfl, HM⟩ (Sub.cons rfl (Sub.cons rfl (Sub.cons rfl (Sub.cons rfl Sub.nil)))) ?_
  clear HM ho5514
  rintro k5528 _ w5529 ⟨a5521, ho5514, rfl, HM⟩
  obtain _ | k5528 := k5528
  ·exact nomatch ((slices_IndexFunc_int64.l0_z x0 a5521).symm.trans ho5514)
  replace ho5514 := (slices_IndexFunc_int64.l0_s x0 k5528 a5521).symm.trans ho5514
  refine run_seq ?_
  refine run_region rfl ?_
  refine ox rfl rfl rfl rfl (ex_lss rfl rfl rfl) ?_
  refine ops_nil (at_then (run_seq ?_))
  refine run_cond (b := (decide (a5521 < (x0.length : Int)))) rfl (fun hb5530 => ?_) (fun hb5530 => ?_)
  ·replace ho5514 := cond_t hb5530 ho5514
   refine run_skip ?_
   refine at_then ?_
   refine run_seq ?_
   refine run_block ?_
   refine run_seq ?_
   refine run_region rfl ?_
   refine ox rfl rfl rfl rfl (ex_move rfl rfl) ?_
   refine ox rfl rfl rfl rfl (ex_assign rfl rfl) ?_
   refine ops_nil (at_then (run_seq ?_))
   obtain ⟨e5531, ho5514⟩ := chk_some ho5514
   obtain ⟨t5533, h5534, ho5514⟩ := bind_some ho5514
   refine run_region rfl ?_
   refine ox rfl rfl rfl rfl (ex_move rfl rfl) ?_
   refine ox rfl rfl rfl rfl (ex_move rfl rfl) ?_
   refine ox rfl rfl rfl rfl (ex_move rfl rfl) ?_
   have hc5532 : CellsAt _ (sb p0) (so p0 + (a5521).toNat * 1) [(.int .i64 (gt x0 a5521))] := rd_plain hp0 e5531
   refine ox rfl rfl rfl rfl (ex_indexAddr (d := kInt) rfl rfl rfl Tryz.underlying58 tsz2 hp0 (idx_lo e5531) (idx_hi e5531)) ?_
   refine ox rfl rfl rfl rfl (ex_load1 rfl rfl Tryz.underlying2 rfl ((HM.at_ hc5532) 0 _ rfl)) ?_
   refine od rfl rfl rfl rfl (does_callvk rfl callok111 rfl rfl rfl (impl_areKeys_1.calls (x0 := (gt x0 a5521)) h5534)) ?_
   rintro _ w5535 ⟨rfl, hn⟩
   replace HM : Mem w [] w5535 [] := HM.call hn
   refine ops_nil (at_then ?_)
   refine run_cond (b := t5533) rfl (fun hb5536 => ?_) (fun hb5536 => ?_)
   ·replace ho5514 := cond_t hb5536 ho5514
    refine run_seq ?_
    refine run_region rfl ?_
    refine ox rfl rfl rfl rfl (ex_move rfl rfl) ?_
    refine ox rfl rfl rfl rfl (ex_assign rfl rfl) ?_
    refine ops_nil (at_then ?_)
    refine run_ret ?_
    refine at_block_ret ?_
    refine at_then_ret ?_
    refine at_then_ret ?_
    refine at_block_ret ?_
    refine at_then_ret ?_
    have hR := Option.some.inj ho5514
    subst hR
    have hT := thn_inl H
    have hR := Option.some.inj hT
    subst hR
    exact at_ret1 rfl rfl ⟨_, rfl, rfl, HM⟩
   ·replace ho5514 := cond_f hb5536 ho5514
    refine run_skip ?_
    refine at_block ?_
    refine at_then ?_
    refine run_region rfl ?_
    refine ox rfl rfl rfl rfl (ex_add rfl rfl rfl) ?_
    refine ox rfl rfl rfl rfl (ex_move rfl rfl) ?_
    refine ops_nil ?_
    exact at_again k5528 (ρ1 := [(0, p0), (1, .func (.func 111) #[] #[]), (7, .int .i64 (x0.length : Int)), (8, .int .i64 (wrap64 (a5521 + 1)))]) (Nat.lt_succ_self _) ⟨_, ho5514, rfl, HM⟩ (Sub.cons rfl (Sub.cons rfl (Sub.cons rfl (Sub.cons rfl Sub.nil))))
  ·replace ho5514 := cond_f hb5530 ho5514
   refine run_exit ?_
   refine at_then_exit ?_
   refine at_then_exit ?_
   refine at_block_exit ?_
   exact at_mid (ρ' := []) ⟨(Option.some.inj ho5514), rfl, HM⟩ Sub.nil
 ·rintro _ w5537 ⟨rfl, rfl, HM⟩
  replace H := (thn_inr H)
  refine run_seq ?_
  refine run_region rfl ?_
  refine ox rfl rfl rfl rfl (ex_assign rfl rfl) ?_
  refine ops_nil (at_then ?_)
  refine run_ret ?_
  have hR := Option.some.inj H
  subst hR
  exact at_ret1 rfl rfl ⟨_, rfl, rfl, HM⟩

def slices_ContainsFunc_int64.f (k : Nat) (x0 : List Int) : Option Bool := ((slices_IndexFunc_int64.f k x0).bind fun t5540 => some (decide (0 ≤ t5540)))
theorem slices_ContainsFunc_int64.calls {k : Nat} {x0 : List Int} {p0 : Value} {w : World} (hp0 : RdS kInt w p0 x0) {r : Bool} (H : slices_ContainsFunc_int64.f k x0 = some r) :
  Calls Tryz.prog 110 ([p0, .func (.func 111) #[] #[]] : List Value).toArray w (fun e w_ => ∃ v, e = .returned v ∧ v = (.bool r) ∧ Mem w [] w_ []) := by
 have HM := Mem.start w
 refine calls_run (N := 9) Tryz.func110 rfl rfl rfl rfl ?_
 unfold slices_ContainsFunc_int64.f at H
 refine run_seq ?_
 refine run_region rfl ?_
 refine ox rfl rfl rfl rfl (ex_assign rfl rfl) ?_
 refine ops_nil (at_then (run_seq ?_))
 obtain ⟨t5540, h5541, H⟩ := bind_some H
 refine run_region rfl ?_
 refine ox rfl rfl rfl rfl (ex_move rfl rfl) ?_
 refine ox rfl rfl rfl rfl (ex_move rfl rfl) ?_
 refine od rfl rfl rfl rfl (does_callk rfl callok124 rfl (slices_IndexFunc_int64.calls (x0 := x0) (HM.rd hp0) h5541)) ?_
 rintro _ w5542 ⟨rfl, hn⟩
 replace HM : Mem w [] w5542 [] := HM.call hn
 refine ox rfl rfl rfl rfl (ex_geq rfl rfl rfl) ?_
 refine ox rfl rfl rfl rfl (ex_assign rfl rfl) ?_
 refine ops_nil (at_then ?_)
 refine run_ret ?_
 have hR := Option.some.inj H
 subst hR
 exact at_ret1 rfl rfl ⟨_, rfl, rfl, HM⟩

def impl_areKeys.f (k : Nat) (x0 : List Int) : Option Bool := ((slices_ContainsFunc_int64.f k x0).bind fun t5545 => some (!t5545))
theorem impl_areKeys.calls {k : Nat} {x0 : List Int} {p0 : Value} {w : World} (hp0 : RdS kInt w p0 x0) {r : Bool} (H : impl_areKeys.f k x0 = some r) :
  Calls Tryz.prog 94 ([p0] : List Value).toArray w (fun e w_ => ∃ v, e = .returned v ∧ v = (.bool r) ∧ Mem w [] w_ []) := by
 have HM := Mem.start w
 refine calls_run (N := 6) Tryz.func94 rfl rfl rfl rfl ?_
 unfold impl_areKeys.f at H
 refine run_seq ?_
 refine run_region rfl ?_
 refine ox rfl rfl rfl rfl (ex_assign rfl rfl) ?_
 refine ops_nil (at_then (run_seq ?_))
 obtain ⟨t5545, h5546, H⟩ := bind_some H
 refine run_region rfl ?_
 refine ox rfl rfl rfl rfl (ex_move rfl rfl) ?_
 refine od rfl rfl rfl rfl (does_callk rfl callok110 rfl (slices_ContainsFunc_int64.calls (x0 := x0) (HM.rd hp0) h5546)) ?_
 rintro _ w5547 ⟨rfl, hn⟩
 replace HM : Mem w [] w5547 [] := HM.call hn
 refine ox rfl rfl rfl rfl (ex_not rfl rfl) ?_
 refine ox rfl rfl rfl rfl (ex_assign rfl rfl) ?_
 refine ops_nil (at_then ?_)
 refine run_ret ?_
 have hR := Option.some.inj H
 subst hR
 exact at_ret1 rfl rfl ⟨_, rfl, rfl, HM⟩

def impl_isRising.l0 (x0 : List Int) : Nat → Int → Option (Bool ⊕ Unit)
 | 0, _ => none
 | k + 1, a5603 => (bif (decide (a5603 < (x0.length : Int))) then (chk (idxOk a5603 x0.length) (chk (idxOk (wrap64 (a5603 - 1)) x0.length) (bif (decide ((gt x0 a5603) ≤ (gt x0 (wrap64 (a5603 - 1))))) then some (.inl false) else impl_isRising.l0 x0 k (wrap64 (a5603 + 1))))) else some (.inr ()))
theorem impl_isRising.l0_z (x0 : List Int) (a5603 : Int) : impl_isRising.l0 x0 0 a5603 = none := rfl
theorem impl_isRising.l0_s (x0 : List Int) (k : Nat) (a5603 : Int) : impl_isRising.l0 x0 (k + 1) a5603 = (bif (decide (a5603 < (x0.length : Int))) then (chk (idxOk a5603 x0.length) (chk (idxOk (wrap64 (a5603 - 1)) x0.length) (bif (decide ((gt x0 a5603) ≤ (gt x0 (wrap64 (a5603 - 1))))) then some (.inl false) else impl_isRising.l0 x0 k (wrap64 (a5603 + 1))))) else some (.inr ())) := rfl
def impl_isRising.f (k : Nat) (x0 : List Int) : Option Bool := ((impl_isRising.l0 x0 k 1).bind fun o5595 => thn o5595 (fun r => some r) (fun _ => some true))
theorem impl_isRising.calls {k : Nat} {x0 : List Int} {p0 : Value} {w : World} (hp0 : RdS kInt w p0 x0) {r : Bool} (H : impl_isRising.f k x0 = some r) :
  Calls Tryz.prog 95 ([p0] : List Value).toArray w (fun e w_ => ∃ v, e = .returned v ∧ v = (.bool r) ∧ Mem w [] w_ []) := by
 have HM := Mem.start w
 refine calls_run (N := 20) Tryz.func95 rfl rfl rfl rfl ?_
 unfold impl_isRising.f at H
 refine run_seq ?_
 refine run_region rfl ?_
 refine ox rfl rfl rfl rfl (ex_assign rfl rfl) ?_
 refine ops_nil (at_then ?_)
 obtain ⟨o5595, ho5596, H⟩ := bind_some H
 refine run_mid (fun ρ_ w_ => Sum.inr () = o5595 ∧ ρ_ = [] ∧ Mem w [] w_ []) ?_ ?_
 ·skip
  refine run_seq ?_
  refine run_region rfl ?_
  refine ox rfl rfl rfl rfl (ex_assign rfl rfl) ?_
  refine ops_nil (at_then ?_)
  refine run_block ?_
  refine run_loop (fun k_ ρ_ w_ => ∃ a5603 : Int, impl_isRising.l0 x0 k_ a5603 = some o5595 ∧ ρ_ = [(0, p0), (3, .int .i64 a5603)] ∧ Mem w [] w_ []) k (ρ1 := [(0, p0), (3, .int .i64 1)]) ⟨_, ho5596, rfl, HM⟩ (Sub.cons rfl (Sub.cons rfl Sub.nil)) ?_
  clear HM ho5596
  rintro k5610 _ w5611 ⟨a5603, ho5596, rfl, HM⟩
  obtain _ | k5610 := k5610
  ·exact nomatch ((impl_isRising.l0_z x0 a5603).symm.trans ho5596)
  replace ho5596 := (impl_isRising.l0_s x0 k5610 a5603).symm.trans ho5596
  refine run_seq ?_
  refine run_seq ?_
  refine run_region rfl ?_
  refine ox rfl rfl rfl rfl (ex_move rfl rfl) ?_
  refine ox rfl rfl rfl rfl (ex_move rfl rfl) ?_
  refine ox rfl rfl rfl rfl (ex_len (d := kInt) (xs := x0) rfl rfl Tryz.underlying58 hp0) ?_
  refine ox rfl rfl rfl rfl (ex_lss rfl rfl rfl) ?_
  refine ops_nil (at_then ?_)
  refine run_cond (b := (decide (a5603 < (x0.length : Int)))) rfl (fun hb5612 => ?_) (fun hb5612 => ?_)
  ·replace ho5596 := cond_t hb5612 ho5596
   refine run_skip ?_
   refine at_then ?_
   refine run_seq ?_
   refine run_block ?_
   refine run_seq ?_
   obtain ⟨e5613, ho5596⟩ := chk_some ho5596
   obtain ⟨e5615, ho5596⟩ := chk_some ho5596
   refine run_drawf (fun w_ => Mem w [] w_ []) [(0, true), (1, true), (2, true), (3, true), (4, true), (5, true), (6, true), (7, true), (8, true), (9, true)] mixed rfl rfl (by kernel_rfl) ?_
   replace HM := HM.grow (fr_drew _)
   have hS := Mem.suf (M := []) HM
   refine dp rfl rfl rfl rfl (ex_move rfl rfl) hS ?_
   refine dp rfl rfl rfl rfl (ex_move rfl rfl) hS ?_
   have hc5614 : CellsAt _ (sb p0) (so p0 + (a5603).toNat * 1) [(.int .i64 (gt x0 a5603))] := rd_plain hp0 e5613
   refine dp rfl rfl rfl rfl (ex_indexAddr (d := kInt) rfl rfl rfl Tryz.underlying58 tsz2 hp0 (idx_lo e5613) (idx_hi e5613)) hS ?_
   refine drwp_take rfl (guard_none rfl) rfl rfl (fun w_ hS_ => (ex_load1 rfl rfl Tryz.underlying2 rfl ((hS_.at_ hc5614) 0 _ rfl))) hS ?_
   refine dp rfl rfl rfl rfl (ex_move rfl rfl) hS ?_
   refine dp rfl rfl rfl rfl (ex_move rfl rfl) hS ?_
   refine dp rfl rfl rfl rfl (ex_sub rfl rfl rfl) hS ?_
   have hc5616 : CellsAt _ (sb p0) (so p0 + (wrap64 (a5603 - 1)).toNat * 1) [(.int .i64 (gt x0 (wrap64 (a5603 - 1))))] := rd_plain hp0 e5615
   refine dp rfl rfl rfl rfl (ex_indexAddr (d := kInt) rfl rfl rfl Tryz.underlying58 tsz2 hp0 (idx_lo e5615) (idx_hi e5615)) hS ?_
   refine drwp_take rfl (guard_none rfl) rfl rfl (fun w_ hS_ => (ex_load1 rfl rfl Tryz.underlying2 rfl ((hS_.at_ hc5616) 0 _ rfl))) hS ?_
   refine dp rfl rfl rfl rfl (ex_leq rfl rfl rfl) hS ?_
   refine drwp_done ?_
   refine at_then ?_
   refine run_cond (b := (decide ((gt x0 a5603) ≤ (gt x0 (wrap64 (a5603 - 1)))))) rfl (fun hb5617 => ?_) (fun hb5617 => ?_)
   ·replace ho5596 := cond_t hb5617 ho5596
    refine run_seq ?_
    refine run_region rfl ?_
    refine ox rfl rfl rfl rfl (ex_assign rfl rfl) ?_
    refine ops_nil (at_then ?_)
    refine run_ret ?_
    refine at_block_ret ?_
    refine at_then_ret ?_
    refine at_then_ret ?_
    refine at_block_ret ?_
    refine at_then_ret ?_
    have hR := Option.some.inj ho5596
    subst hR
    have hT := thn_inl H
    have hR := Option.some.inj hT
    subst hR
    exact at_ret1 rfl rfl ⟨_, rfl, rfl, HM⟩
   ·replace ho5596 := cond_f hb5617 ho5596
    refine run_skip ?_
    refine at_block ?_
    refine at_then ?_
    refine run_region rfl ?_
    refine ox rfl rfl rfl rfl (ex_move rfl rfl) ?_
    refine ox rfl rfl rfl rfl (ex_add rfl rfl rfl) ?_
    refine ox rfl rfl rfl rfl (ex_assign rfl rfl) ?_
    refine ops_nil ?_
    exact at_again k5610 (ρ1 := [(0, p0), (3, .int .i64 (wrap64 (a5603 + 1)))]) (Nat.lt_succ_self _) ⟨_, ho5596, rfl, HM⟩ (Sub.cons rfl (Sub.cons rfl Sub.nil))
  ·replace ho5596 := cond_f hb5612 ho5596
   refine run_exit ?_
   refine at_then_exit ?_
   refine at_then_exit ?_
   refine at_block_exit ?_
   exact at_mid (ρ' := []) ⟨(Option.some.inj ho5596), rfl, HM⟩ Sub.nil
 ·rintro _ w5618 ⟨rfl, rfl, HM⟩
  replace H := (thn_inr H)
  refine run_seq ?_
  refine run_region rfl ?_
  refine ox rfl rfl rfl rfl (ex_assign rfl rfl) ?_
  refine ops_nil (at_then ?_)
  refine run_ret ?_
  have hR := Option.some.inj H
  subst hR
  exact at_ret1 rfl rfl ⟨_, rfl, rfl, HM⟩

def impl_RuleFault.f (k : Nat) (x0 : Rule) : Option Int := ((impl_within.f k (x0.fKeys.length : Int) 1 3).bind fun t5626 => (bif !t5626 then some 2 else ((impl_areKeys.f k x0.fKeys).bind fun t5630 => ((bif (!(!t5630)) then impl_within.f k x0.fNeed 1 (x0.fKeys.length : Int) else some default).bind fun t5632 => ((bif (!((!t5630) || (!t5632))) then impl_isHeight.f k x0.fAfter else some default).bind fun t5634 => (bif (((!t5630) || (!t5632)) || (!t5634)) then some 3 else ((impl_isRising.f k x0.fKeys).bind fun t5646 => (bif !t5646 then some 1 else some 0))))))))
theorem impl_RuleFault.calls {k : Nat} {x0 : Rule} {p0_0 : Value} {w : World} (hp0_0 : RdS kInt w p0_0 x0.fKeys) {r : Int} (H : impl_RuleFault.f k x0 = some r) :
  Calls Tryz.prog 68 ([.agg #[p0_0, (.int .i64 x0.fNeed), (.int .i64 x0.fAfter)]] : List Value).toArray w (fun e w_ => ∃ v, e = .returned v ∧ v = (.int .i64 r) ∧ Mem w [] w_ []) := by
 have HM := Mem.start w
 refine calls_run (N := 34) Tryz.func68 rfl rfl rfl rfl ?_
 unfold impl_RuleFault.f at H
 refine run_seq ?_
 refine run_region rfl ?_
 refine od rfl rfl rfl rfl (does_box (cs := [p0_0, .int .i64 x0.fNeed, .int .i64 x0.fAfter]) rfl rfl rfl HM) ?_
 rintro _ w5625 ⟨b5622, rfl, HM⟩
 refine ox rfl rfl rfl rfl (ex_assign rfl rfl) ?_
 refine ops_nil (at_then (run_seq ?_))
 refine run_region rfl ?_
 refine ox rfl rfl rfl rfl (ex_fieldAddr (off' := 0) rfl rfl Tryz.underlying82 rfl tsz58 rfl) ?_
 refine ox rfl rfl rfl rfl (ex_load1 rfl rfl Tryz.underlying58 rfl ((HM.box_at 0 rfl) 0 _ rfl)) ?_
 refine ox rfl rfl rfl rfl (ex_len (d := kInt) (xs := x0.fKeys) rfl rfl Tryz.underlying58 hp0_0) ?_
 refine ox rfl rfl rfl rfl (ex_assign rfl rfl) ?_
 refine ops_nil (at_then (run_seq ?_))
 refine run_block ?_
 refine run_seq ?_
 obtain ⟨t5626, h5627, H⟩ := bind_some H
 refine run_region rfl ?_
 refine ox rfl rfl rfl rfl (ex_move rfl rfl) ?_
 refine od rfl rfl rfl rfl (does_callk rfl callok65 rfl (impl_within.calls (x0 := (x0.fKeys.length : Int)) (x1 := 1) (x2 := 3) h5627)) ?_
 rintro _ w5628 ⟨rfl, hn⟩
 replace HM : Mem w [] w5628 [box b5622 82 [p0_0, .int .i64 x0.fNeed, .int .i64 x0.fAfter]] := HM.call hn
 refine ox rfl rfl rfl rfl (ex_not rfl rfl) ?_
 refine ox rfl rfl rfl rfl (ex_assign rfl rfl) ?_
 refine ops_nil (at_then ?_)
 refine run_cond (b := !t5626) rfl (fun hb5629 => ?_) (fun hb5629 => ?_)
 ·replace H := cond_t hb5629 H
  refine run_seq ?_
  refine run_region rfl ?_
  refine ox rfl rfl rfl rfl (ex_assign rfl rfl) ?_
  refine ops_nil (at_then ?_)
  refine run_ret ?_
  refine at_block_ret ?_
  refine at_then_ret ?_
  replace HM := (HM.front 0 rfl rfl).drop
  have hR := Option.some.inj H
  subst hR
  exact at_ret1 rfl rfl ⟨_, rfl, rfl, HM⟩
 ·replace H := cond_f hb5629 H
  refine run_seq ?_
  obtain ⟨t5630, h5631, H⟩ := bind_some H
  obtain ⟨t5632, h5633, H⟩ := bind_some H
  obtain ⟨t5634, h5635, H⟩ := bind_some H
  refine run_meet (fun ρ_ w_ => ρ_ = [(1, .pointer (some ⟨b5622, 0, none⟩)), (11, .bool (((!t5630) || (!t5632)) || (!t5634)))] ∧ Mem w [] w_ [box b5622 82 [p0_0, .int .i64 x0.fNeed, .int .i64 x0.fAfter]]) ?_ ?_
  ·skip
   refine run_region rfl ?_
   refine ox rfl rfl rfl rfl (ex_fieldAddr (off' := 0) rfl rfl Tryz.underlying82 rfl tsz58 rfl) ?_
   refine ox rfl rfl rfl rfl (ex_load1 rfl rfl Tryz.underlying58 rfl ((HM.box_at 0 rfl) 0 _ rfl)) ?_
   refine od rfl rfl rfl rfl (does_callk rfl callok94 rfl (impl_areKeys.calls (x0 := x0.fKeys) (HM.rd hp0_0) h5631)) ?_
   rintro _ w5636 ⟨rfl, hn⟩
   replace HM : Mem w [] w5636 [box b5622 82 [p0_0, .int .i64 x0.fNeed, .int .i64 x0.fAfter]] := HM.call hn
   refine ox rfl rfl rfl rfl (ex_not rfl rfl) ?_
   refine ox rfl rfl rfl rfl (ex_move rfl rfl) ?_
   refine bool_cases (!t5630) (fun hg5637 => ?_) (fun hg5637 => ?_)
   ·skip
    refine ops_off rfl (guard_off rfl rfl rfl hg5637) rfl rfl ?_
    refine ops_off rfl (guard_off rfl rfl rfl hg5637) rfl rfl ?_
    refine ops_off rfl (guard_off rfl rfl rfl hg5637) rfl rfl ?_
    refine ops_off rfl (guard_off rfl rfl rfl hg5637) rfl rfl ?_
    refine ops_off rfl (guard_off rfl rfl rfl hg5637) rfl rfl ?_
    have hg5638 : ((!t5630) || (!t5632)) = true := by simp only [hg5637, Bool.and_true, Bool.true_and, Bool.and_false, Bool.false_and, Bool.or_true, Bool.true_or, Bool.or_false, Bool.false_or, Bool.not_true, Bool.not_false, Bool.not_not]
    refine ops_ex (v := .bool ((!t5630) || (!t5632))) rfl (guard_none rfl) rfl rfl (ex_por_t rfl rfl hg5637) ?_
    refine ox rfl rfl rfl rfl (ex_move rfl rfl) ?_
    refine ops_off rfl (guard_off rfl rfl rfl hg5638) rfl rfl ?_
    refine ops_off rfl (guard_off rfl rfl rfl hg5638) rfl rfl ?_
    refine ops_off rfl (guard_off rfl rfl rfl hg5638) rfl rfl ?_
    refine ops_off rfl (guard_off rfl rfl rfl hg5638) rfl rfl ?_
    have hg5639 : (((!t5630) || (!t5632)) || (!t5634)) = true := by simp only [hg5638, Bool.and_true, Bool.true_and, Bool.and_false, Bool.false_and, Bool.or_true, Bool.true_or, Bool.or_false, Bool.false_or, Bool.not_true, Bool.not_false, Bool.not_not]
    refine ops_ex (v := .bool (((!t5630) || (!t5632)) || (!t5634))) rfl (guard_none rfl) rfl rfl (ex_por_t rfl rfl hg5638) ?_
    refine ox rfl rfl rfl rfl (ex_assign rfl rfl) ?_
    refine ops_nil ?_
    exact at_meet [(1, .pointer (some ⟨b5622, 0, none⟩)), (11, .bool (((!t5630) || (!t5632)) || (!t5634)))] ⟨rfl, HM⟩ (Sub.cons rfl (Sub.cons rfl Sub.nil))
   ·skip
    refine ops_ex rfl (guard_on rfl rfl rfl hg5637) rfl rfl (ex_fieldAddr (off' := 1) rfl rfl Tryz.underlying82 rfl tsz2 rfl) ?_
    refine ops_ex rfl (guard_on rfl rfl rfl hg5637) rfl rfl (ex_load1 rfl rfl Tryz.underlying2 rfl ((HM.box_at 0 rfl) 1 _ rfl)) ?_
    refine ops_ex rfl (guard_on rfl rfl rfl hg5637) rfl rfl (ex_move rfl rfl) ?_
    refine ops_does rfl (guard_on rfl rfl rfl hg5637) rfl rfl (does_callk rfl callok65 rfl (impl_within.calls (x0 := x0.fNeed) (x1 := 1) (x2 := (x0.fKeys.length : Int)) (cond_t (not_mk hg5637) h5633))) ?_
    rintro _ w5640 ⟨rfl, hn⟩
    replace HM : Mem w [] w5640 [box b5622 82 [p0_0, .int .i64 x0.fNeed, .int .i64 x0.fAfter]] := HM.call hn
    refine ops_ex rfl (guard_on rfl rfl rfl hg5637) rfl rfl (ex_not rfl rfl) ?_
    refine ops_ex (v := .bool ((!t5630) || (!t5632))) rfl (guard_none rfl) rfl rfl (ex_por_f rfl rfl hg5637 rfl) ?_
    refine ox rfl rfl rfl rfl (ex_move rfl rfl) ?_
    refine bool_cases ((!t5630) || (!t5632)) (fun hg5641 => ?_) (fun hg5641 => ?_)
    ·skip
     refine ops_off rfl (guard_off rfl rfl rfl hg5641) rfl rfl ?_
     refine ops_off rfl (guard_off rfl rfl rfl hg5641) rfl rfl ?_
     refine ops_off rfl (guard_off rfl rfl rfl hg5641) rfl rfl ?_
     refine ops_off rfl (guard_off rfl rfl rfl hg5641) rfl rfl ?_
     have hg5642 : (((!t5630) || (!t5632)) || (!t5634)) = true := by simp only [hg5641, Bool.and_true, Bool.true_and, Bool.and_false, Bool.false_and, Bool.or_true, Bool.true_or, Bool.or_false, Bool.false_or, Bool.not_true, Bool.not_false, Bool.not_not]
     refine ops_ex (v := .bool (((!t5630) || (!t5632)) || (!t5634))) rfl (guard_none rfl) rfl rfl (ex_por_t rfl rfl hg5641) ?_
     refine ox rfl rfl rfl rfl (ex_assign rfl rfl) ?_
     refine ops_nil ?_
     exact at_meet [(1, .pointer (some ⟨b5622, 0, none⟩)), (11, .bool (((!t5630) || (!t5632)) || (!t5634)))] ⟨rfl, HM⟩ (Sub.cons rfl (Sub.cons rfl Sub.nil))
    ·skip
     refine ops_ex rfl (guard_on rfl rfl rfl hg5641) rfl rfl (ex_fieldAddr (off' := 2) rfl rfl Tryz.underlying82 rfl tsz2 rfl) ?_
     refine ops_ex rfl (guard_on rfl rfl rfl hg5641) rfl rfl (ex_load1 rfl rfl Tryz.underlying2 rfl ((HM.box_at 0 rfl) 2 _ rfl)) ?_
     refine ops_does rfl (guard_on rfl rfl rfl hg5641) rfl rfl (does_callk rfl callok36 rfl (impl_isHeight.calls (x0 := x0.fAfter) (cond_t (not_mk hg5641) h5635))) ?_
     rintro _ w5643 ⟨rfl, hn⟩
     replace HM : Mem w [] w5643 [box b5622 82 [p0_0, .int .i64 x0.fNeed, .int .i64 x0.fAfter]] := HM.call hn
     refine ops_ex rfl (guard_on rfl rfl rfl hg5641) rfl rfl (ex_not rfl rfl) ?_
     refine ops_ex (v := .bool (((!t5630) || (!t5632)) || (!t5634))) rfl (guard_none rfl) rfl rfl (ex_por_f rfl rfl hg5641 rfl) ?_
     refine ox rfl rfl rfl rfl (ex_assign rfl rfl) ?_
     refine ops_nil ?_
     exact at_meet [(1, .pointer (some ⟨b5622, 0, none⟩)), (11, .bool (((!t5630) || (!t5632)) || (!t5634)))] ⟨rfl, HM⟩ (Sub.cons rfl (Sub.cons rfl Sub.nil))
  ·rintro _ w5644 ⟨rfl, HM⟩
   refine at_then ?_
   refine run_cond (b := (((!t5630) || (!t5632)) || (!t5634))) rfl (fun hb5645 => ?_) (fun hb5645 => ?_)
   ·replace H := cond_t hb5645 H
    refine run_seq ?_
    refine run_region rfl ?_
    refine ox rfl rfl rfl rfl (ex_assign rfl rfl) ?_
    refine ops_nil (at_then ?_)
    refine run_ret ?_
    refine at_block_ret ?_
    refine at_then_ret ?_
    replace HM := (HM.front 0 rfl rfl).drop
    have hR := Option.some.inj H
    subst hR
    exact at_ret1 rfl rfl ⟨_, rfl, rfl, HM⟩
   ·replace H := cond_f hb5645 H
    refine run_seq ?_
    obtain ⟨t5646, h5647, H⟩ := bind_some H
    refine run_region rfl ?_
    refine ox rfl rfl rfl rfl (ex_fieldAddr (off' := 0) rfl rfl Tryz.underlying82 rfl tsz58 rfl) ?_
    refine ox rfl rfl rfl rfl (ex_load1 rfl rfl Tryz.underlying58 rfl ((HM.box_at 0 rfl) 0 _ rfl)) ?_
    refine od rfl rfl rfl rfl (does_callk rfl callok95 rfl (impl_isRising.calls (x0 := x0.fKeys) (HM.rd hp0_0) h5647)) ?_
    rintro _ w5648 ⟨rfl, hn⟩
    replace HM : Mem w [] w5648 [box b5622 82 [p0_0, .int .i64 x0.fNeed, .int .i64 x0.fAfter]] := HM.call hn
    refine ox rfl rfl rfl rfl (ex_not rfl rfl) ?_
    refine ox rfl rfl rfl rfl (ex_assign rfl rfl) ?_
    refine ops_nil (at_then ?_)
    refine run_cond (b := !t5646) rfl (fun hb5649 => ?_) (fun hb5649 => ?_)
    ·replace H := cond_t hb5649 H
     refine run_seq ?_
     refine run_region rfl ?_
     refine ox rfl rfl rfl rfl (ex_assign rfl rfl) ?_
     refine ops_nil (at_then ?_)
     refine run_ret ?_
     refine at_block_ret ?_
     refine at_then_ret ?_
     replace HM := (HM.front 0 rfl rfl).drop
     have hR := Option.some.inj H
     subst hR
     exact at_ret1 rfl rfl ⟨_, rfl, rfl, HM⟩
    ·replace H := cond_f hb5649 H
     refine run_skip ?_
     refine at_block ?_
     refine at_then ?_
     refine run_seq ?_
     refine run_region rfl ?_
     refine ox rfl rfl rfl rfl (ex_assign rfl rfl) ?_
     refine ops_nil (at_then ?_)
     refine run_ret ?_
     replace HM := (HM.front 0 rfl rfl).drop
     have hR := Option.some.inj H
     subst hR
     exact at_ret1 rfl rfl ⟨_, rfl, rfl, HM⟩

def cmp_isNaN_int64.f (k : Nat) (x0 : Int) : Option Bool := some (x0 != x0)
theorem cmp_isNaN_int64.calls {k : Nat} {x0 : Int}  {w : World}  {r : Bool} (H : cmp_isNaN_int64.f k x0 = some r) :
  Calls Tryz.prog 112 ([.int .i64 x0] : List Value).toArray w (fun e w_ => ∃ v, e = .returned v ∧ v = (.bool r) ∧ Mem w [] w_ []) := by
 have HM := Mem.start w
 refine calls_run (N := 6) Tryz.func112 rfl rfl rfl rfl ?_
 unfold cmp_isNaN_int64.f at H
 refine run_seq ?_
 refine run_region rfl ?_
 refine ox rfl rfl rfl rfl (ex_assign rfl rfl) ?_
 refine ops_nil (at_then (run_seq ?_))
 refine run_region rfl ?_
 refine ox rfl rfl rfl rfl (ex_move rfl rfl) ?_
 refine ox rfl rfl rfl rfl (ex_move rfl rfl) ?_
 refine ox rfl rfl rfl rfl (ex_neq rfl rfl rfl) ?_
 refine ox rfl rfl rfl rfl (ex_assign rfl rfl) ?_
 refine ops_nil (at_then ?_)
 refine run_ret ?_
 have hR := Option.some.inj H
 subst hR
 exact at_ret1 rfl rfl ⟨_, rfl, rfl, HM⟩

def cmp_Compare_int64.f (k : Nat) (x0 : Int) (x1 : Int) : Option Int := ((cmp_isNaN_int64.f k x0).bind fun t5679 => ((cmp_isNaN_int64.f k x1).bind fun t5682 => (bif t5679 then (bif t5682 then some 0 else some (-1)) else (bif t5682 then some 1 else (bif (decide (x0 < x1)) then some (-1) else (bif (decide (x1 < x0)) then some 1 else some 0))))))
theorem cmp_Compare_int64.calls {k : Nat} {x0 : Int} {x1 : Int}  {w : World}  {r : Int} (H : cmp_Compare_int64.f k x0 x1 = some r) :
  Calls Tryz.prog 97 ([.int .i64 x0, .int .i64 x1] : List Value).toArray w (fun e w_ => ∃ v, e = .returned v ∧ v = (.int .i64 r) ∧ Mem w [] w_ []) := by
 have HM := Mem.start w
 refine calls_run (N := 20) Tryz.func97 rfl rfl rfl rfl ?_
 unfold cmp_Compare_int64.f at H
 refine run_seq ?_
 refine run_region rfl ?_
 refine ox rfl rfl rfl rfl (ex_assign rfl rfl) ?_
 refine ops_nil (at_then (run_seq ?_))
 obtain ⟨t5679, h5680, H⟩ := bind_some H
 refine run_region rfl ?_
 refine ox rfl rfl rfl rfl (ex_move rfl rfl) ?_
 refine od rfl rfl rfl rfl (does_callk rfl callok112 rfl (cmp_isNaN_int64.calls (x0 := x0) h5680)) ?_
 rintro _ w5681 ⟨rfl, hn⟩
 replace HM : Mem w [] w5681 [] := HM.call hn
 refine ox rfl rfl rfl rfl (ex_assign rfl rfl) ?_
 refine ops_nil (at_then (run_seq ?_))
 obtain ⟨t5682, h5683, H⟩ := bind_some H
 refine run_region rfl ?_
 refine ox rfl rfl rfl rfl (ex_move rfl rfl) ?_
 refine od rfl rfl rfl rfl (does_callk rfl callok112 rfl (cmp_isNaN_int64.calls (x0 := x1) h5683)) ?_
 rintro _ w5684 ⟨rfl, hn⟩
 replace HM : Mem w [] w5684 [] := HM.call hn
 refine ox rfl rfl rfl rfl (ex_assign rfl rfl) ?_
 refine ops_nil (at_then (run_seq ?_))
 refine run_seq ?_
 refine run_region rfl ?_
 refine ox rfl rfl rfl rfl (ex_move rfl rfl) ?_
 refine ops_nil (at_then ?_)
 refine run_cond (b := t5679) rfl (fun hb5687 => ?_) (fun hb5687 => ?_)
 ·replace H := cond_t hb5687 H
  refine run_seq ?_
  refine run_seq ?_
  refine run_region rfl ?_
  refine ox rfl rfl rfl rfl (ex_move rfl rfl) ?_
  refine ops_nil (at_then ?_)
  refine run_cond (b := t5682) rfl (fun hb5688 => ?_) (fun hb5688 => ?_)
  ·replace H := cond_t hb5688 H
   refine run_seq ?_
   refine run_region rfl ?_
   refine ox rfl rfl rfl rfl (ex_assign rfl rfl) ?_
   refine ops_nil (at_then ?_)
   refine run_ret ?_
   refine at_then_ret ?_
   refine at_then_ret ?_
   have hR := Option.some.inj H
   subst hR
   exact at_ret1 rfl rfl ⟨_, rfl, rfl, HM⟩
  ·replace H := cond_f hb5688 H
   refine run_skip ?_
   refine at_then ?_
   refine run_seq ?_
   refine run_region rfl ?_
   refine ox rfl rfl rfl rfl (ex_assign rfl rfl) ?_
   refine ops_nil (at_then ?_)
   refine run_ret ?_
   refine at_then_ret ?_
   have hR := Option.some.inj H
   subst hR
   exact at_ret1 rfl rfl ⟨_, rfl, rfl, HM⟩
 ·replace H := cond_f hb5687 H
  refine run_skip ?_
  refine at_then ?_
  refine run_seq ?_
  refine run_seq ?_
  refine run_region rfl ?_
  refine ox rfl rfl rfl rfl (ex_move rfl rfl) ?_
  refine ops_nil (at_then ?_)
  refine run_cond (b := t5682) rfl (fun hb5690 => ?_) (fun hb5690 => ?_)
  ·replace H := cond_t hb5690 H
   refine run_seq ?_
   refine run_region rfl ?_
   refine ox rfl rfl rfl rfl (ex_assign rfl rfl) ?_
   refine ops_nil (at_then ?_)
   refine run_ret ?_
   refine at_then_ret ?_
   have hR := Option.some.inj H
   subst hR
   exact at_ret1 rfl rfl ⟨_, rfl, rfl, HM⟩
  ·replace H := cond_f hb5690 H
   refine run_skip ?_
   refine at_then ?_
   refine run_seq ?_
   refine run_seq ?_
   refine run_region rfl ?_
   refine ox rfl rfl rfl rfl (ex_move rfl rfl) ?_
   refine ox rfl rfl rfl rfl (ex_move rfl rfl) ?_
   refine ox rfl rfl rfl rfl (ex_lss rfl rfl rfl) ?_
   refine ops_nil (at_then ?_)
   refine run_cond (b := (decide (x0 < x1))) rfl (fun hb5692 => ?_) (fun hb5692 => ?_)
   ·replace H := cond_t hb5692 H
    refine run_seq ?_
    refine run_region rfl ?_
    refine ox rfl rfl rfl rfl (ex_assign rfl rfl) ?_
    refine ops_nil (at_then ?_)
    refine run_ret ?_
    refine at_then_ret ?_
    have hR := Option.some.inj H
    subst hR
    exact at_ret1 rfl rfl ⟨_, rfl, rfl, HM⟩
   ·replace H := cond_f hb5692 H
    refine run_skip ?_
    refine at_then ?_
    refine run_seq ?_
    refine run_seq ?_
    refine run_region rfl ?_
    refine ox rfl rfl rfl rfl (ex_move rfl rfl) ?_
    refine ox rfl rfl rfl rfl (ex_move rfl rfl) ?_
    refine ox rfl rfl rfl rfl (ex_gtr rfl rfl rfl) ?_
    refine ops_nil (at_then ?_)
    refine run_cond (b := (decide (x1 < x0))) rfl (fun hb5693 => ?_) (fun hb5693 => ?_)
    ·replace H := cond_t hb5693 H
     refine run_seq ?_
     refine run_region rfl ?_
     refine ox rfl rfl rfl rfl (ex_assign rfl rfl) ?_
     refine ops_nil (at_then ?_)
     refine run_ret ?_
     refine at_then_ret ?_
     have hR := Option.some.inj H
     subst hR
     exact at_ret1 rfl rfl ⟨_, rfl, rfl, HM⟩
    ·replace H := cond_f hb5693 H
     refine run_skip ?_
     refine at_then ?_
     refine run_seq ?_
     refine run_region rfl ?_
     refine ox rfl rfl rfl rfl (ex_assign rfl rfl) ?_
     refine ops_nil (at_then ?_)
     refine run_ret ?_
     have hR := Option.some.inj H
     subst hR
     exact at_ret1 rfl rfl ⟨_, rfl, rfl, HM⟩

def cmp_Or_int.l0 (x0 : List Int) : Nat → Int → Option (Int ⊕ Unit)
 | 0, _ => none
 | k + 1, a5735 => (bif (decide (a5735 < (x0.length : Int))) then (chk (idxOk a5735 x0.length) (bif ((gt x0 a5735) != 0) then some (.inl (gt x0 a5735)) else cmp_Or_int.l0 x0 k (wrap64 (a5735 + 1)))) else some (.inr ()))
theorem cmp_Or_int.l0_z (x0 : List Int) (a5735 : Int) : cmp_Or_int.l0 x0 0 a5735 = none := rfl
theorem cmp_Or_int.l0_s (x0 : List Int) (k : Nat) (a5735 : Int) : cmp_Or_int.l0 x0 (k + 1) a5735 = (bif (decide (a5735 < (x0.length : Int))) then (chk (idxOk a5735 x0.length) (bif ((gt x0 a5735) != 0) then some (.inl (gt x0 a5735)) else cmp_Or_int.l0 x0 k (wrap64 (a5735 + 1)))) else some (.inr ())) := rfl
def cmp_Or_int.f (k : Nat) (x0 : List Int) : Option Int := ((cmp_Or_int.l0 x0 k 0).bind fun o5729 => thn o5729 (fun r => some r) (fun _ => some 0))
theorem cmp_Or_int.calls {k : Nat} {x0 : List Int} {p0 : Value} {w : World} (hp0 : RdS kInt w p0 x0) {r : Int} (H : cmp_Or_int.f k x0 = some r) :
  Calls Tryz.prog 96 ([p0] : List Value).toArray w (fun e w_ => ∃ v, e = .returned v ∧ v = (.int .i64 r) ∧ Mem w [] w_ []) := by
 have HM := Mem.start w
 refine calls_run (N := 18) Tryz.func96 rfl rfl rfl rfl ?_
 unfold cmp_Or_int.f at H
 refine run_seq ?_
 refine run_region rfl ?_
 refine ox rfl rfl rfl rfl (ex_assign rfl rfl) ?_
 refine ops_nil (at_then (run_seq ?_))
 refine run_region rfl ?_
 refine ox rfl rfl rfl rfl (ex_assign rfl rfl) ?_
 refine ops_nil (at_then ?_)
 obtain ⟨o5729, ho5730, H⟩ := bind_some H
 refine run_mid (fun ρ_ w_ => Sum.inr () = o5729 ∧ ρ_ = [(3, .int .i64 0)] ∧ Mem w [] w_ []) ?_ ?_
 ·skip
  refine run_seq ?_
  refine run_region rfl ?_
  refine ox rfl rfl rfl rfl (ex_move rfl rfl) ?_
  refine ox rfl rfl rfl rfl (ex_len (d := kInt) (xs := x0) rfl rfl Tryz.underlying160 hp0) ?_
  refine ox rfl rfl rfl rfl (ex_move rfl rfl) ?_
  refine ops_nil (at_then ?_)
  refine run_block ?_
  refine run_loop (fun k_ ρ_ w_ => ∃ a5735 : Int, cmp_Or_int.l0 x0 k_ a5735 = some o5729 ∧ ρ_ = [(3, .int .i64 0), (6, p0), (7, .int .i64 (x0.length : Int)), (8, .int .i64 a5735)] ∧ Mem w [] w_ []) k (ρ1 := [(3, .int .i64 0), (6, p0), (7, .int .i64 (x0.length : Int)), (8, .int .i64 0)]) ⟨_, ho5730, rfl, HM⟩ (Sub.cons rfl (Sub.cons rfl (Sub.cons rfl (Sub.cons rfl Sub.nil)))) ?_
  clear HM ho5730
  rintro k5740 _ w5741 ⟨a5735, ho5730, rfl, HM⟩
  obtain _ | k5740 := k5740
  ·exact nomatch ((cmp_Or_int.l0_z x0 a5735).symm.trans ho5730)
  replace ho5730 := (cmp_Or_int.l0_s x0 k5740 a5735).symm.trans ho5730
  refine run_seq ?_
  refine run_region rfl ?_
  refine ox rfl rfl rfl rfl (ex_lss rfl rfl rfl) ?_
  refine ops_nil (at_then (run_seq ?_))
  refine run_cond (b := (decide (a5735 < (x0.length : Int)))) rfl (fun hb5742 => ?_) (fun hb5742 => ?_)
  ·replace ho5730 := cond_t hb5742 ho5730
   refine run_skip ?_
   refine at_then ?_
   refine run_seq ?_
   refine run_block ?_
   refine run_seq ?_
   obtain ⟨e5743, ho5730⟩ := chk_some ho5730
   refine run_region rfl ?_
   have hc5744 : CellsAt _ (sb p0) (so p0 + (a5735).toNat * 1) [(.int .i64 (gt x0 a5735))] := rd_plain hp0 e5743
   refine ox rfl rfl rfl rfl (ex_indexAddr (d := kInt) rfl rfl rfl Tryz.underlying160 tsz3 hp0 (idx_lo e5743) (idx_hi e5743)) ?_
   refine ox rfl rfl rfl rfl (ex_load1 rfl rfl Tryz.underlying3 rfl ((HM.at_ hc5744) 0 _ rfl)) ?_
   refine ox rfl rfl rfl rfl (ex_assign rfl rfl) ?_
   refine ops_nil (at_then (run_seq ?_))
   refine run_region rfl ?_
   refine ox rfl rfl rfl rfl (ex_move rfl rfl) ?_
   refine ox rfl rfl rfl rfl (ex_move rfl rfl) ?_
   refine ox rfl rfl rfl rfl (ex_neq rfl rfl rfl) ?_
   refine ops_nil (at_then ?_)
   refine run_cond (b := ((gt x0 a5735) != 0)) rfl (fun hb5745 => ?_) (fun hb5745 => ?_)
   ·replace ho5730 := cond_t hb5745 ho5730
    refine run_seq ?_
    refine run_region rfl ?_
    refine ox rfl rfl rfl rfl (ex_move rfl rfl) ?_
    refine ox rfl rfl rfl rfl (ex_assign rfl rfl) ?_
    refine ops_nil (at_then ?_)
    refine run_ret ?_
    refine at_block_ret ?_
    refine at_then_ret ?_
    refine at_then_ret ?_
    refine at_block_ret ?_
    refine at_then_ret ?_
    have hR := Option.some.inj ho5730
    subst hR
    have hT := thn_inl H
    have hR := Option.some.inj hT
    subst hR
    exact at_ret1 rfl rfl ⟨_, rfl, rfl, HM⟩
   ·replace ho5730 := cond_f hb5745 ho5730
    refine run_skip ?_
    refine at_block ?_
    refine at_then ?_
    refine run_region rfl ?_
    refine ox rfl rfl rfl rfl (ex_add rfl rfl rfl) ?_
    refine ox rfl rfl rfl rfl (ex_move rfl rfl) ?_
    refine ops_nil ?_
    exact at_again k5740 (ρ1 := [(3, .int .i64 0), (6, p0), (7, .int .i64 (x0.length : Int)), (8, .int .i64 (wrap64 (a5735 + 1)))]) (Nat.lt_succ_self _) ⟨_, ho5730, rfl, HM⟩ (Sub.cons rfl (Sub.cons rfl (Sub.cons rfl (Sub.cons rfl Sub.nil))))
  ·replace ho5730 := cond_f hb5742 ho5730
   refine run_exit ?_
   refine at_then_exit ?_
   refine at_then_exit ?_
   refine at_block_exit ?_
   exact at_mid (ρ' := [(3, .int .i64 0)]) ⟨(Option.some.inj ho5730), rfl, HM⟩ (Sub.cons rfl Sub.nil)
 ·rintro _ w5746 ⟨rfl, rfl, HM⟩
  replace H := (thn_inr H)
  refine run_seq ?_
  refine run_region rfl ?_
  refine ox rfl rfl rfl rfl (ex_move rfl rfl) ?_
  refine ox rfl rfl rfl rfl (ex_assign rfl rfl) ?_
  refine ops_nil (at_then ?_)
  refine run_ret ?_
  have hR := Option.some.inj H
  subst hR
  exact at_ret1 rfl rfl ⟨_, rfl, rfl, HM⟩

def impl_compareRefs.f (k : Nat) (x0 : Ref) (x1 : Ref) : Option Int := ((cmp_Compare_int64.f k x0.fTx x1.fTx).bind fun t5757 => ((cmp_Compare_int64.f k x0.fAt x1.fAt).bind fun t5759 => ((cmp_Or_int.f k ([t5757, t5759] : List Int)).bind fun t5764 => some t5764)))
theorem impl_compareRefs.calls {k : Nat} {x0 : Ref} {x1 : Ref}  {w : World}  {r : Int} (H : impl_compareRefs.f k x0 x1 = some r) :
  Calls Tryz.prog 69 ([.agg #[(.int .i64 x0.fTx), (.int .i64 x0.fAt)], .agg #[(.int .i64 x1.fTx), (.int .i64 x1.fAt)]] : List Value).toArray w (fun e w_ => ∃ v, e = .returned v ∧ v = (.int .i64 r) ∧ Mem w [] w_ []) := by
 have HM := Mem.start w
 refine calls_run (N := 17) Tryz.func69 rfl rfl rfl rfl ?_
 unfold impl_compareRefs.f at H
 refine run_seq ?_
 refine run_region rfl ?_
 refine od rfl rfl rfl rfl (does_box (cs := [.int .i64 x0.fTx, .int .i64 x0.fAt]) rfl rfl rfl HM) ?_
 rintro _ w5755 ⟨b5749, rfl, HM⟩
 refine od rfl rfl rfl rfl (does_box (cs := [.int .i64 x1.fTx, .int .i64 x1.fAt]) rfl rfl rfl HM) ?_
 rintro _ w5756 ⟨b5752, rfl, HM⟩
 refine ox rfl rfl rfl rfl (ex_assign rfl rfl) ?_
 refine ops_nil (at_then (run_seq ?_))
 obtain ⟨t5757, h5758, H⟩ := bind_some H
 obtain ⟨t5759, h5760, H⟩ := bind_some H
 obtain ⟨t5764, h5765, H⟩ := bind_some H
 refine run_drawf (fun w_ => Mem w [] w_ [box b5752 81 [.int .i64 x1.fTx, .int .i64 x1.fAt], box b5749 81 [.int .i64 x0.fTx, .int .i64 x0.fAt]]) [(0, true), (1, true), (2, true), (3, true), (5, true), (6, true), (7, true), (8, true), (4, false), (9, false), (10, false), (11, false), (12, true)] mixed rfl rfl (by kernel_rfl) ?_
 replace HM := HM.grow (fr_drew _)
 have hS := Mem.suf (M := []) HM
 refine dp rfl rfl rfl rfl (ex_fieldAddr (off' := 0) rfl rfl Tryz.underlying81 rfl tsz2 rfl) hS ?_
 refine drwp_take rfl (guard_none rfl) rfl rfl (fun w_ hS_ => (ex_load1 rfl rfl Tryz.underlying2 rfl ((hS_.box_at 1 rfl) 0 _ rfl))) hS ?_
 refine dp rfl rfl rfl rfl (ex_fieldAddr (off' := 0) rfl rfl Tryz.underlying81 rfl tsz2 rfl) hS ?_
 refine drwp_take rfl (guard_none rfl) rfl rfl (fun w_ hS_ => (ex_load1 rfl rfl Tryz.underlying2 rfl ((hS_.box_at 0 rfl) 0 _ rfl))) hS ?_
 refine dp rfl rfl rfl rfl (ex_fieldAddr (off' := 1) rfl rfl Tryz.underlying81 rfl tsz2 rfl) hS ?_
 refine drwp_take rfl (guard_none rfl) rfl rfl (fun w_ hS_ => (ex_load1 rfl rfl Tryz.underlying2 rfl ((hS_.box_at 1 rfl) 1 _ rfl))) hS ?_
 refine dp rfl rfl rfl rfl (ex_fieldAddr (off' := 1) rfl rfl Tryz.underlying81 rfl tsz2 rfl) hS ?_
 refine drwp_take rfl (guard_none rfl) rfl rfl (fun w_ hS_ => (ex_load1 rfl rfl Tryz.underlying2 rfl ((hS_.box_at 0 rfl) 1 _ rfl))) hS ?_
 refine drwp_one rfl (guard_none rfl) rfl rfl (does_callk rfl callok97 rfl (cmp_Compare_int64.calls (x0 := x0.fTx) (x1 := x1.fTx) h5758)) ?_
 rintro _ w5766 ⟨rfl, hn⟩
 replace HM : Mem w [] w5766 [box b5752 81 [.int .i64 x1.fTx, .int .i64 x1.fAt], box b5749 81 [.int .i64 x0.fTx, .int .i64 x0.fAt]] := HM.call hn
 have hS := Mem.suf (M := []) HM
 refine ⟨hS, ?_⟩
 refine drwp_one rfl (guard_none rfl) rfl rfl (does_callk rfl callok97 rfl (cmp_Compare_int64.calls (x0 := x0.fAt) (x1 := x1.fAt) h5760)) ?_
 rintro _ w5767 ⟨rfl, hn⟩
 replace HM : Mem w [] w5767 [box b5752 81 [.int .i64 x1.fTx, .int .i64 x1.fAt], box b5749 81 [.int .i64 x0.fTx, .int .i64 x0.fAt]] := HM.call hn
 have hS := Mem.suf (M := []) HM
 refine ⟨hS, ?_⟩
 refine drwp_one rfl (guard_none rfl) rfl rfl (does_lit (e := 3) (cs := [.int .i64 t5757, .int .i64 t5759]) (xs := ([t5757, t5759] : List Int)) kInt rfl rfl (fun _ => by kernel_rfl) rfl rfl (fun _ _ h => by have h' : _ = [] := h; subst h'; exact (Elems.cons (d := kInt) (x := t5757) (f := []) ⟨rfl, rfl⟩ (Elems.cons (d := kInt) (x := t5759) (f := []) ⟨rfl, rfl⟩ .nil))) HM.emp) ?_
 rintro v5761 w5768 HM
 have hS := Mem.suf (M := [own kInt 3 v5761 ([t5757, t5759] : List Int)]) HM
 refine ⟨hS, ?_⟩
 refine drwp_one rfl (guard_none rfl) rfl rfl (does_callk rfl callok96 rfl (cmp_Or_int.calls (x0 := ([t5757, t5759] : List Int)) (HM.own_rd 0 rfl) h5765)) ?_
 rintro _ w5769 ⟨rfl, hn⟩
 replace HM : Mem w [] w5769 [own kInt 3 v5761 ([t5757, t5759] : List Int), box b5752 81 [.int .i64 x1.fTx, .int .i64 x1.fAt], box b5749 81 [.int .i64 x0.fTx, .int .i64 x0.fAt]] := HM.call hn
 have hS := Mem.suf (M := [own kInt 3 v5761 ([t5757, t5759] : List Int)]) HM
 refine ⟨hS, ?_⟩
 refine dp rfl rfl rfl rfl (ex_assign rfl rfl) hS ?_
 refine drwp_done ?_
 refine at_then ?_
 refine run_ret ?_
 replace HM := (HM.front 0 rfl rfl).drop
 replace HM := (HM.front 0 rfl rfl).drop
 replace HM := (HM.front 0 rfl rfl).drop
 have hR := Option.some.inj H
 subst hR
 exact at_ret1 rfl rfl ⟨_, rfl, rfl, HM⟩

def impl_CoinsFault.l0 (x0 : List Coin) : Nat → Int → Option (Int ⊕ Unit)
 | 0, _ => none
 | k + 1, a5991 => (bif (decide (a5991 < (x0.length : Int))) then (chk (idxOk a5991 x0.length) ((impl_isRef.f k ((gt x0 a5991).fRef)).bind fun t6046 => ((bif (!(!t6046)) then impl_isHeight.f k ((gt x0 a5991).fHeight) else some default).bind fun t6048 => ((bif (!((!t6046) || (!t6048))) then impl_within.f k ((gt x0 a5991).fOut.fValue) 1 1000000 else some default).bind fun t6050 => (bif (((!t6046) || (!t6048)) || (!t6050)) then some (.inl 3) else ((impl_RuleFault.f k ((gt x0 a5991).fOut.fRule)).bind fun t6065 => (bif (t6065 != 0) then some (.inl t6065) else (chk (!(decide (0 < a5991)) || (idxOk (wrap64 (a5991 - 1)) x0.length)) ((bif (decide (0 < a5991)) then impl_compareRefs.f k ((gt x0 (wrap64 (a5991 - 1))).fRef) ((gt x0 a5991).fRef) else some default).bind fun t6073 => (bif ((decide (0 < a5991)) && (decide (0 ≤ t6073))) then some (.inl 1) else impl_CoinsFault.l0 x0 k (wrap64 (a5991 + 1)))))))))))) else some (.inr ()))
theorem impl_CoinsFault.l0_z (x0 : List Coin) (a5991 : Int) : impl_CoinsFault.l0 x0 0 a5991 = none := rfl
theorem impl_CoinsFault.l0_s (x0 : List Coin) (k : Nat) (a5991 : Int) : impl_CoinsFault.l0 x0 (k + 1) a5991 = (bif (decide (a5991 < (x0.length : Int))) then (chk (idxOk a5991 x0.length) ((impl_isRef.f k ((gt x0 a5991).fRef)).bind fun t6046 => ((bif (!(!t6046)) then impl_isHeight.f k ((gt x0 a5991).fHeight) else some default).bind fun t6048 => ((bif (!((!t6046) || (!t6048))) then impl_within.f k ((gt x0 a5991).fOut.fValue) 1 1000000 else some default).bind fun t6050 => (bif (((!t6046) || (!t6048)) || (!t6050)) then some (.inl 3) else ((impl_RuleFault.f k ((gt x0 a5991).fOut.fRule)).bind fun t6065 => (bif (t6065 != 0) then some (.inl t6065) else (chk (!(decide (0 < a5991)) || (idxOk (wrap64 (a5991 - 1)) x0.length)) ((bif (decide (0 < a5991)) then impl_compareRefs.f k ((gt x0 (wrap64 (a5991 - 1))).fRef) ((gt x0 a5991).fRef) else some default).bind fun t6073 => (bif ((decide (0 < a5991)) && (decide (0 ≤ t6073))) then some (.inl 1) else impl_CoinsFault.l0 x0 k (wrap64 (a5991 + 1)))))))))))) else some (.inr ())) := rfl
def impl_CoinsFault.f (k : Nat) (x0 : List Coin) : Option Int := (bif (decide (40 < (x0.length : Int))) then some 2 else ((impl_CoinsFault.l0 x0 k 0).bind fun o5954 => thn o5954 (fun r => some r) (fun _ => some 0)))
theorem impl_CoinsFault.calls {k : Nat} {x0 : List Coin} {p0 : Value} {w : World} (hp0 : RdS kCoin w p0 x0) {r : Int} (H : impl_CoinsFault.f k x0 = some r) :
  Calls Tryz.prog 34 ([p0] : List Value).toArray w (fun e w_ => ∃ v, e = .returned v ∧ v = (.int .i64 r) ∧ Mem w [] w_ []) := by
 have HM := Mem.start w
 refine calls_run (N := 55) Tryz.func34 rfl rfl rfl rfl ?_
 unfold impl_CoinsFault.f at H
 refine run_seq ?_
 refine run_region rfl ?_
 refine ox rfl rfl rfl rfl (ex_assign rfl rfl) ?_
 refine ops_nil (at_then (run_seq ?_))
 refine run_seq ?_
 refine run_region rfl ?_
 refine ox rfl rfl rfl rfl (ex_move rfl rfl) ?_
 refine ox rfl rfl rfl rfl (ex_len (d := kCoin) (xs := x0) rfl rfl Tryz.underlying41 hp0) ?_
 refine ox rfl rfl rfl rfl (ex_gtr rfl rfl rfl) ?_
 refine ops_nil (at_then ?_)
 refine run_cond (b := (decide (40 < (x0.length : Int)))) rfl (fun hb5847 => ?_) (fun hb5847 => ?_)
 ·replace H := cond_t hb5847 H
  refine run_seq ?_
  refine run_region rfl ?_
  refine ox rfl rfl rfl rfl (ex_assign rfl rfl) ?_
  refine ops_nil (at_then ?_)
  refine run_ret ?_
  refine at_then_ret ?_
  have hR := Option.some.inj H
  subst hR
  exact at_ret1 rfl rfl ⟨_, rfl, rfl, HM⟩
 ·replace H := cond_f hb5847 H
  refine run_skip ?_
  refine at_then ?_
  obtain ⟨o5954, ho5955, H⟩ := bind_some H
  refine run_mid (fun ρ_ w_ => Sum.inr () = o5954 ∧ ρ_ = [] ∧ Mem w [] w_ []) ?_ ?_
  ·skip
   refine run_seq ?_
   refine run_region rfl ?_
   refine ox rfl rfl rfl rfl (ex_move rfl rfl) ?_
   refine ox rfl rfl rfl rfl (ex_len (d := kCoin) (xs := x0) rfl rfl Tryz.underlying41 hp0) ?_
   refine ox rfl rfl rfl rfl (ex_move rfl rfl) ?_
   refine ops_nil (at_then ?_)
   refine run_block ?_
   refine run_loop (fun k_ ρ_ w_ => ∃ a5991 : Int, impl_CoinsFault.l0 x0 k_ a5991 = some o5954 ∧ ρ_ = [(0, p0), (9, p0), (10, .int .i64 (x0.length : Int)), (11, .int .i64 a5991)] ∧ Mem w [] w_ []) k (ρ1 := [(0, p0), (9, p0), (10, .int .i64 (x0.length : Int)), (11, .int .i64 0)]) ⟨_, ho5955, rfl, HM⟩ (Sub.cons rfl (Sub.cons rfl (Sub.cons rfl (Sub.cons rfl Sub.nil)))) ?_
   clear HM ho5955
   rintro k6027 _ w6028 ⟨a5991, ho5955, rfl, HM⟩
   obtain _ | k6027 := k6027
   ·exact nomatch ((impl_CoinsFault.l0_z x0 a5991).symm.trans ho5955)
   replace ho5955 := (impl_CoinsFault.l0_s x0 k6027 a5991).symm.trans ho5955
   refine run_seq ?_
   refine run_region rfl ?_
   refine ox rfl rfl rfl rfl (ex_lss rfl rfl rfl) ?_
   refine ops_nil (at_then (run_seq ?_))
   refine run_cond (b := (decide (a5991 < (x0.length : Int)))) rfl (fun hb6029 => ?_) (fun hb6029 => ?_)
   ·replace ho5955 := cond_t hb6029 ho5955
    refine run_skip ?_
    refine at_then ?_
    refine run_seq ?_
    refine run_block ?_
    refine run_seq ?_
    obtain ⟨e6030, ho5955⟩ := chk_some ho5955
    refine run_region rfl ?_
    refine ox rfl rfl rfl rfl (ex_move rfl rfl) ?_
    obtain ⟨kv6032, hc6031, hk6033⟩ : ∃ u, CellsAt _ (sb p0) (so p0 + (a5991).toNat * 8) [(.int .i64 ((gt x0 a5991).fRef.fTx)), (.int .i64 ((gt x0 a5991).fRef.fAt)), (.int .i64 ((gt x0 a5991).fOut.fValue)), u, (.int .i64 ((gt x0 a5991).fOut.fRule.fNeed)), (.int .i64 ((gt x0 a5991).fOut.fRule.fAfter)), (.int .i64 ((gt x0 a5991).fHeight)), (.bool ((gt x0 a5991).fMined))] ∧ RdS kInt _ u ((gt x0 a5991).fOut.fRule.fKeys) := rd_with1 hp0 e6030
    refine ox rfl rfl rfl rfl (ex_indexAddr (d := kCoin) rfl rfl rfl Tryz.underlying41 tsz86 hp0 (idx_lo e6030) (idx_hi e6030)) ?_
    refine ox rfl rfl rfl rfl (ex_loadN (cs := [(.int .i64 ((gt x0 a5991).fRef.fTx)), (.int .i64 ((gt x0 a5991).fRef.fAt)), (.int .i64 ((gt x0 a5991).fOut.fValue)), kv6032, (.int .i64 ((gt x0 a5991).fOut.fRule.fNeed)), (.int .i64 ((gt x0 a5991).fOut.fRule.fAfter)), (.int .i64 ((gt x0 a5991).fHeight)), (.bool ((gt x0 a5991).fMined))]) rfl rfl Tryz.underlying86 rfl tsz86 rfl ((HM.at_ hc6031).sub 0 8 rfl)) ?_
    refine od rfl rfl rfl rfl (does_alloc (cs := [.int .i64 0, .int .i64 0, .int .i64 0, .slice none 0 0, .int .i64 0, .int .i64 0, .int .i64 0, .bool false]) rfl tz86 rfl HM) ?_
    rintro _ w6037 ⟨b6034, rfl, HM⟩
    refine ox rfl rfl rfl rfl (ex_assign rfl rfl) ?_
    refine odS rfl rfl rfl (does_store (vs := [.int .i64 ((gt x0 a5991).fRef.fTx), .int .i64 ((gt x0 a5991).fRef.fAt), .int .i64 ((gt x0 a5991).fOut.fValue), kv6032, .int .i64 ((gt x0 a5991).fOut.fRule.fNeed), .int .i64 ((gt x0 a5991).fOut.fRule.fAfter), .int .i64 ((gt x0 a5991).fHeight), .bool ((gt x0 a5991).fMined)]) (cs' := [.int .i64 ((gt x0 a5991).fRef.fTx), .int .i64 ((gt x0 a5991).fRef.fAt), .int .i64 ((gt x0 a5991).fOut.fValue), kv6032, .int .i64 ((gt x0 a5991).fOut.fRule.fNeed), .int .i64 ((gt x0 a5991).fOut.fRule.fAfter), .int .i64 ((gt x0 a5991).fHeight), .bool ((gt x0 a5991).fMined)]) rfl rfl rfl rfl tsz86 (Ones.int (Ones.int (Ones.int (Ones.rd hk6033 (Ones.int (Ones.int (Ones.int (Ones.bool Ones.nil)))))))) rfl rfl HM) ?_
    rintro w6038 HM
    refine ops_nil (at_then (run_seq ?_))
    refine run_seq ?_
    obtain ⟨t6046, h6047, ho5955⟩ := bind_some ho5955
    obtain ⟨t6048, h6049, ho5955⟩ := bind_some ho5955
    obtain ⟨t6050, h6051, ho5955⟩ := bind_some ho5955
    refine run_meet (fun ρ_ w_ => ρ_ = [(0, p0), (9, p0), (10, .int .i64 (x0.length : Int)), (11, .int .i64 a5991), (4, .pointer (some ⟨b6034, 0, none⟩)), (3, .int .i64 a5991), (32, .bool (((!t6046) || (!t6048)) || (!t6050)))] ∧ Mem w [] w_ [box b6034 86 [.int .i64 ((gt x0 a5991).fRef.fTx), .int .i64 ((gt x0 a5991).fRef.fAt), .int .i64 ((gt x0 a5991).fOut.fValue), kv6032, .int .i64 ((gt x0 a5991).fOut.fRule.fNeed), .int .i64 ((gt x0 a5991).fOut.fRule.fAfter), .int .i64 ((gt x0 a5991).fHeight), .bool ((gt x0 a5991).fMined)]]) ?_ ?_
    ·skip
     refine run_region rfl ?_
     refine ox rfl rfl rfl rfl (ex_fieldAddr (off' := 0) rfl rfl Tryz.underlying86 rfl tsz81 rfl) ?_
     refine ox rfl rfl rfl rfl (ex_loadN (cs := [(.int .i64 ((gt x0 a5991).fRef.fTx)), (.int .i64 ((gt x0 a5991).fRef.fAt))]) rfl rfl Tryz.underlying81 rfl tsz81 rfl ((HM.box_at 0 rfl).sub 0 2 rfl)) ?_
     refine od rfl rfl rfl rfl (does_callk rfl callok67 rfl (impl_isRef.calls (x0 := (gt x0 a5991).fRef) h6047)) ?_
     rintro _ w6052 ⟨rfl, hn⟩
     replace HM : Mem w [] w6052 [box b6034 86 [.int .i64 ((gt x0 a5991).fRef.fTx), .int .i64 ((gt x0 a5991).fRef.fAt), .int .i64 ((gt x0 a5991).fOut.fValue), kv6032, .int .i64 ((gt x0 a5991).fOut.fRule.fNeed), .int .i64 ((gt x0 a5991).fOut.fRule.fAfter), .int .i64 ((gt x0 a5991).fHeight), .bool ((gt x0 a5991).fMined)]] := HM.call hn
     refine ox rfl rfl rfl rfl (ex_not rfl rfl) ?_
     refine ox rfl rfl rfl rfl (ex_move rfl rfl) ?_
     refine bool_cases (!t6046) (fun hg6053 => ?_) (fun hg6053 => ?_)
     ·skip
      refine ops_off rfl (guard_off rfl rfl rfl hg6053) rfl rfl ?_
      refine ops_off rfl (guard_off rfl rfl rfl hg6053) rfl rfl ?_
      refine ops_off rfl (guard_off rfl rfl rfl hg6053) rfl rfl ?_
      refine ops_off rfl (guard_off rfl rfl rfl hg6053) rfl rfl ?_
      have hg6054 : ((!t6046) || (!t6048)) = true := by simp only [hg6053, Bool.and_true, Bool.true_and, Bool.and_false, Bool.false_and, Bool.or_true, Bool.true_or, Bool.or_false, Bool.false_or, Bool.not_true, Bool.not_false, Bool.not_not]
      refine ops_ex (v := .bool ((!t6046) || (!t6048))) rfl (guard_none rfl) rfl rfl (ex_por_t rfl rfl hg6053) ?_
      refine ox rfl rfl rfl rfl (ex_move rfl rfl) ?_
      refine ops_off rfl (guard_off rfl rfl rfl hg6054) rfl rfl ?_
      refine ops_off rfl (guard_off rfl rfl rfl hg6054) rfl rfl ?_
      refine ops_off rfl (guard_off rfl rfl rfl hg6054) rfl rfl ?_
      refine ops_off rfl (guard_off rfl rfl rfl hg6054) rfl rfl ?_
      refine ops_off rfl (guard_off rfl rfl rfl hg6054) rfl rfl ?_
      have hg6055 : (((!t6046) || (!t6048)) || (!t6050)) = true := by simp only [hg6054, Bool.and_true, Bool.true_and, Bool.and_false, Bool.false_and, Bool.or_true, Bool.true_or, Bool.or_false, Bool.false_or, Bool.not_true, Bool.not_false, Bool.not_not]
      refine ops_ex (v := .bool (((!t6046) || (!t6048)) || (!t6050))) rfl (guard_none rfl) rfl rfl (ex_por_t rfl rfl hg6054) ?_
      refine ops_nil ?_
      exact at_meet [(0, p0), (9, p0), (10, .int .i64 (x0.length : Int)), (11, .int .i64 a5991), (4, .pointer (some ⟨b6034, 0, none⟩)), (3, .int .i64 a5991), (32, .bool (((!t6046) || (!t6048)) || (!t6050)))] ⟨rfl, HM⟩ (Sub.cons rfl (Sub.cons rfl (Sub.cons rfl (Sub.cons rfl (Sub.cons rfl (Sub.cons rfl (Sub.cons rfl Sub.nil)))))))
     ·skip
      refine ops_ex rfl (guard_on rfl rfl rfl hg6053) rfl rfl (ex_fieldAddr (off' := 6) rfl rfl Tryz.underlying86 rfl tsz2 rfl) ?_
      refine ops_ex rfl (guard_on rfl rfl rfl hg6053) rfl rfl (ex_load1 rfl rfl Tryz.underlying2 rfl ((HM.box_at 0 rfl) 6 _ rfl)) ?_
      refine ops_does rfl (guard_on rfl rfl rfl hg6053) rfl rfl (does_callk rfl callok36 rfl (impl_isHeight.calls (x0 := (gt x0 a5991).fHeight) (cond_t (not_mk hg6053) h6049))) ?_
      rintro _ w6056 ⟨rfl, hn⟩
      replace HM : Mem w [] w6056 [box b6034 86 [.int .i64 ((gt x0 a5991).fRef.fTx), .int .i64 ((gt x0 a5991).fRef.fAt), .int .i64 ((gt x0 a5991).fOut.fValue), kv6032, .int .i64 ((gt x0 a5991).fOut.fRule.fNeed), .int .i64 ((gt x0 a5991).fOut.fRule.fAfter), .int .i64 ((gt x0 a5991).fHeight), .bool ((gt x0 a5991).fMined)]] := HM.call hn
      refine ops_ex rfl (guard_on rfl rfl rfl hg6053) rfl rfl (ex_not rfl rfl) ?_
      refine ops_ex (v := .bool ((!t6046) || (!t6048))) rfl (guard_none rfl) rfl rfl (ex_por_f rfl rfl hg6053 rfl) ?_
      refine ox rfl rfl rfl rfl (ex_move rfl rfl) ?_
      refine bool_cases ((!t6046) || (!t6048)) (fun hg6057 => ?_) (fun hg6057 => ?_)
      ·skip
       refine ops_off rfl (guard_off rfl rfl rfl hg6057) rfl rfl ?_
       refine ops_off rfl (guard_off rfl rfl rfl hg6057) rfl rfl ?_
       refine ops_off rfl (guard_off rfl rfl rfl hg6057) rfl rfl ?_
       refine ops_off rfl (guard_off rfl rfl rfl hg6057) rfl rfl ?_
       refine ops_off rfl (guard_off rfl rfl rfl hg6057) rfl rfl ?_
       have hg6058 : (((!t6046) || (!t6048)) || (!t6050)) = true := by simp only [hg6057, Bool.and_true, Bool.true_and, Bool.and_false, Bool.false_and, Bool.or_true, Bool.true_or, Bool.or_false, Bool.false_or, Bool.not_true, Bool.not_false, Bool.not_not]
       refine ops_ex (v := .bool (((!t6046) || (!t6048)) || (!t6050))) rfl (guard_none rfl) rfl rfl (ex_por_t rfl rfl hg6057) ?_
       refine ops_nil ?_
       exact at_meet [(0, p0), (9, p0), (10, .int .i64 (x0.length : Int)), (11, .int .i64 a5991), (4, .pointer (some ⟨b6034, 0, none⟩)), (3, .int .i64 a5991), (32, .bool (((!t6046) || (!t6048)) || (!t6050)))] ⟨rfl, HM⟩ (Sub.cons rfl (Sub.cons rfl (Sub.cons rfl (Sub.cons rfl (Sub.cons rfl (Sub.cons rfl (Sub.cons rfl Sub.nil)))))))
      ·skip
       refine ops_ex rfl (guard_on rfl rfl rfl hg6057) rfl rfl (ex_fieldAddr (off' := 2) rfl rfl Tryz.underlying86 rfl tsz84 rfl) ?_
       refine ops_ex rfl (guard_on rfl rfl rfl hg6057) rfl rfl (ex_fieldAddr (off' := 2) rfl rfl Tryz.underlying84 rfl tsz2 rfl) ?_
       refine ops_ex rfl (guard_on rfl rfl rfl hg6057) rfl rfl (ex_load1 rfl rfl Tryz.underlying2 rfl ((HM.box_at 0 rfl) 2 _ rfl)) ?_
       refine ops_does rfl (guard_on rfl rfl rfl hg6057) rfl rfl (does_callk rfl callok65 rfl (impl_within.calls (x0 := (gt x0 a5991).fOut.fValue) (x1 := 1) (x2 := 1000000) (cond_t (not_mk hg6057) h6051))) ?_
       rintro _ w6059 ⟨rfl, hn⟩
       replace HM : Mem w [] w6059 [box b6034 86 [.int .i64 ((gt x0 a5991).fRef.fTx), .int .i64 ((gt x0 a5991).fRef.fAt), .int .i64 ((gt x0 a5991).fOut.fValue), kv6032, .int .i64 ((gt x0 a5991).fOut.fRule.fNeed), .int .i64 ((gt x0 a5991).fOut.fRule.fAfter), .int .i64 ((gt x0 a5991).fHeight), .bool ((gt x0 a5991).fMined)]] := HM.call hn
       refine ops_ex rfl (guard_on rfl rfl rfl hg6057) rfl rfl (ex_not rfl rfl) ?_
       refine ops_ex (v := .bool (((!t6046) || (!t6048)) || (!t6050))) rfl (guard_none rfl) rfl rfl (ex_por_f rfl rfl hg6057 rfl) ?_
       refine ops_nil ?_
       exact at_meet [(0, p0), (9, p0), (10, .int .i64 (x0.length : Int)), (11, .int .i64 a5991), (4, .pointer (some ⟨b6034, 0, none⟩)), (3, .int .i64 a5991), (32, .bool (((!t6046) || (!t6048)) || (!t6050)))] ⟨rfl, HM⟩ (Sub.cons rfl (Sub.cons rfl (Sub.cons rfl (Sub.cons rfl (Sub.cons rfl (Sub.cons rfl (Sub.cons rfl Sub.nil)))))))
    ·rintro _ w6060 ⟨rfl, HM⟩
     refine at_then ?_
     refine run_cond (b := (((!t6046) || (!t6048)) || (!t6050))) rfl (fun hb6061 => ?_) (fun hb6061 => ?_)
     ·replace ho5955 := cond_t hb6061 ho5955
      refine run_seq ?_
      refine run_region rfl ?_
      refine ox rfl rfl rfl rfl (ex_assign rfl rfl) ?_
      refine ops_nil (at_then ?_)
      refine run_ret ?_
      refine at_then_ret ?_
      refine at_block_ret ?_
      refine at_then_ret ?_
      refine at_then_ret ?_
      refine at_block_ret ?_
      refine at_then_ret ?_
      replace HM := (HM.front 0 rfl rfl).drop
      have hR := Option.some.inj ho5955
      subst hR
      have hT := thn_inl H
      have hR := Option.some.inj hT
      subst hR
      exact at_ret1 rfl rfl ⟨_, rfl, rfl, HM⟩
     ·replace ho5955 := cond_f hb6061 ho5955
      refine run_skip ?_
      refine at_then ?_
      refine run_seq ?_
      refine run_seq ?_
      obtain ⟨t6065, h6066, ho5955⟩ := bind_some ho5955
      refine run_region rfl ?_
      refine ox rfl rfl rfl rfl (ex_fieldAddr (off' := 2) rfl rfl Tryz.underlying86 rfl tsz84 rfl) ?_
      refine ox rfl rfl rfl rfl (ex_fieldAddr (off' := 3) rfl rfl Tryz.underlying84 rfl tsz82 rfl) ?_
      refine ox rfl rfl rfl rfl (ex_loadN (cs := [kv6032, (.int .i64 ((gt x0 a5991).fOut.fRule.fNeed)), (.int .i64 ((gt x0 a5991).fOut.fRule.fAfter))]) rfl rfl Tryz.underlying82 rfl tsz82 rfl ((HM.box_at 0 rfl).sub 3 3 rfl)) ?_
      refine od rfl rfl rfl rfl (does_callk rfl callok68 rfl (impl_RuleFault.calls (x0 := (gt x0 a5991).fOut.fRule) (HM.rd hk6033) h6066)) ?_
      rintro _ w6067 ⟨rfl, hn⟩
      replace HM : Mem w [] w6067 [box b6034 86 [.int .i64 ((gt x0 a5991).fRef.fTx), .int .i64 ((gt x0 a5991).fRef.fAt), .int .i64 ((gt x0 a5991).fOut.fValue), kv6032, .int .i64 ((gt x0 a5991).fOut.fRule.fNeed), .int .i64 ((gt x0 a5991).fOut.fRule.fAfter), .int .i64 ((gt x0 a5991).fHeight), .bool ((gt x0 a5991).fMined)]] := HM.call hn
      refine ox rfl rfl rfl rfl (ex_assign rfl rfl) ?_
      refine ops_nil (at_then (run_seq ?_))
      refine run_region rfl ?_
      refine ox rfl rfl rfl rfl (ex_move rfl rfl) ?_
      refine ox rfl rfl rfl rfl (ex_neq rfl rfl rfl) ?_
      refine ops_nil (at_then ?_)
      refine run_cond (b := (t6065 != 0)) rfl (fun hb6068 => ?_) (fun hb6068 => ?_)
      ·replace ho5955 := cond_t hb6068 ho5955
       refine run_seq ?_
       refine run_region rfl ?_
       refine ox rfl rfl rfl rfl (ex_move rfl rfl) ?_
       refine ox rfl rfl rfl rfl (ex_assign rfl rfl) ?_
       refine ops_nil (at_then ?_)
       refine run_ret ?_
       refine at_then_ret ?_
       refine at_block_ret ?_
       refine at_then_ret ?_
       refine at_then_ret ?_
       refine at_block_ret ?_
       refine at_then_ret ?_
       replace HM := (HM.front 0 rfl rfl).drop
       have hR := Option.some.inj ho5955
       subst hR
       have hT := thn_inl H
       have hR := Option.some.inj hT
       subst hR
       exact at_ret1 rfl rfl ⟨_, rfl, rfl, HM⟩
      ·replace ho5955 := cond_f hb6068 ho5955
       refine run_skip ?_
       refine at_then ?_
       refine run_seq ?_
       obtain ⟨e6069, ho5955⟩ := chk_some ho5955
       obtain ⟨t6073, h6074, ho5955⟩ := bind_some ho5955
       refine run_meet (fun ρ_ w_ => ρ_ = [(0, p0), (9, p0), (10, .int .i64 (x0.length : Int)), (11, .int .i64 a5991), (53, .bool ((decide (0 < a5991)) && (decide (0 ≤ t6073))))] ∧ Mem w [] w_ []) ?_ ?_
       ·skip
        refine run_drawf (fun w_ => Mem w [] w_ [box b6034 86 [.int .i64 ((gt x0 a5991).fRef.fTx), .int .i64 ((gt x0 a5991).fRef.fAt), .int .i64 ((gt x0 a5991).fOut.fValue), kv6032, .int .i64 ((gt x0 a5991).fOut.fRule.fNeed), .int .i64 ((gt x0 a5991).fOut.fRule.fAfter), .int .i64 ((gt x0 a5991).fHeight), .bool ((gt x0 a5991).fMined)]]) [(0, true), (1, true), (2, true), (3, true), (4, true), (5, true), (6, true), (7, true), (8, true), (9, true), (10, true), (11, false), (12, true), (13, true)] mixed rfl rfl (by kernel_rfl) ?_
        replace HM := HM.grow (fr_drew _)
        have hS := Mem.suf (M := []) HM
        refine dp rfl rfl rfl rfl (ex_move rfl rfl) hS ?_
        refine dp rfl rfl rfl rfl (ex_gtr rfl rfl rfl) hS ?_
        refine dp rfl rfl rfl rfl (ex_move rfl rfl) hS ?_
        refine bool_cases (decide (0 < a5991)) (fun hg6075 => ?_) (fun hg6075 => ?_)
        ·skip
         refine drwp_take rfl (guard_on rfl rfl rfl hg6075) rfl rfl (fun w_ hS_ => (ex_move rfl rfl)) hS ?_
         refine drwp_take rfl (guard_on rfl rfl rfl hg6075) rfl rfl (fun w_ hS_ => (ex_move rfl rfl)) hS ?_
         refine drwp_take rfl (guard_on rfl rfl rfl hg6075) rfl rfl (fun w_ hS_ => (ex_sub rfl rfl rfl)) hS ?_
         obtain ⟨kv6071, hc6070, hk6072⟩ : ∃ u, CellsAt _ (sb p0) (so p0 + (wrap64 (a5991 - 1)).toNat * 8) [(.int .i64 ((gt x0 (wrap64 (a5991 - 1))).fRef.fTx)), (.int .i64 ((gt x0 (wrap64 (a5991 - 1))).fRef.fAt)), (.int .i64 ((gt x0 (wrap64 (a5991 - 1))).fOut.fValue)), u, (.int .i64 ((gt x0 (wrap64 (a5991 - 1))).fOut.fRule.fNeed)), (.int .i64 ((gt x0 (wrap64 (a5991 - 1))).fOut.fRule.fAfter)), (.int .i64 ((gt x0 (wrap64 (a5991 - 1))).fHeight)), (.bool ((gt x0 (wrap64 (a5991 - 1))).fMined))] ∧ RdS kInt _ u ((gt x0 (wrap64 (a5991 - 1))).fOut.fRule.fKeys) := rd_with1 hp0 (or_t e6069 hg6075)
         refine drwp_take rfl (guard_on rfl rfl rfl hg6075) rfl rfl (fun w_ hS_ => (ex_indexAddr (d := kCoin) rfl rfl rfl Tryz.underlying41 tsz86 hp0 (idx_lo (or_t e6069 hg6075)) (idx_hi (or_t e6069 hg6075)))) hS ?_
         refine drwp_take rfl (guard_on rfl rfl rfl hg6075) rfl rfl (fun w_ hS_ => (ex_fieldAddr (off' := so p0 + (wrap64 (a5991 - 1)).toNat * 8) rfl rfl Tryz.underlying86 rfl tsz81 rfl)) hS ?_
         refine drwp_take rfl (guard_on rfl rfl rfl hg6075) rfl rfl (fun w_ hS_ => (ex_loadN (cs := [(.int .i64 ((gt x0 (wrap64 (a5991 - 1))).fRef.fTx)), (.int .i64 ((gt x0 (wrap64 (a5991 - 1))).fRef.fAt))]) rfl rfl Tryz.underlying81 rfl tsz81 rfl ((hS_.at_ hc6070).sub 0 2 rfl))) hS ?_
         refine drwp_take rfl (guard_on rfl rfl rfl hg6075) rfl rfl (fun w_ hS_ => (ex_fieldAddr (off' := 0) rfl rfl Tryz.underlying86 rfl tsz81 rfl)) hS ?_
         refine drwp_take rfl (guard_on rfl rfl rfl hg6075) rfl rfl (fun w_ hS_ => (ex_loadN (cs := [(.int .i64 ((gt x0 a5991).fRef.fTx)), (.int .i64 ((gt x0 a5991).fRef.fAt))]) rfl rfl Tryz.underlying81 rfl tsz81 rfl ((hS_.box_at 0 rfl).sub 0 2 rfl))) hS ?_
         refine drwp_one rfl (guard_on rfl rfl rfl hg6075) rfl rfl (does_callk rfl callok69 rfl (impl_compareRefs.calls (x0 := (gt x0 (wrap64 (a5991 - 1))).fRef) (x1 := (gt x0 a5991).fRef) (cond_t hg6075 h6074))) ?_
         rintro _ w6076 ⟨rfl, hn⟩
         replace HM : Mem w [] w6076 [box b6034 86 [.int .i64 ((gt x0 a5991).fRef.fTx), .int .i64 ((gt x0 a5991).fRef.fAt), .int .i64 ((gt x0 a5991).fOut.fValue), kv6032, .int .i64 ((gt x0 a5991).fOut.fRule.fNeed), .int .i64 ((gt x0 a5991).fOut.fRule.fAfter), .int .i64 ((gt x0 a5991).fHeight), .bool ((gt x0 a5991).fMined)]] := HM.call hn
         have hS := Mem.suf (M := []) HM
         refine ⟨hS, ?_⟩
         refine drwp_take rfl (guard_on rfl rfl rfl hg6075) rfl rfl (fun w_ hS_ => (ex_geq rfl rfl rfl)) hS ?_
         refine drwp_take (v := .bool ((decide (0 < a5991)) && (decide (0 ≤ t6073)))) rfl (guard_none rfl) rfl rfl (fun w_ hS_ => (ex_pand_t rfl rfl hg6075 rfl)) hS ?_
         refine drwp_done ?_
         replace HM := (HM.front 0 rfl rfl).drop
         exact at_meet [(0, p0), (9, p0), (10, .int .i64 (x0.length : Int)), (11, .int .i64 a5991), (53, .bool ((decide (0 < a5991)) && (decide (0 ≤ t6073))))] ⟨rfl, HM⟩ (Sub.cons rfl (Sub.cons rfl (Sub.cons rfl (Sub.cons rfl (Sub.cons rfl Sub.nil)))))
        ·skip
         refine drwp_off rfl (guard_off rfl rfl rfl hg6075) rfl rfl hS ?_
         refine drwp_off rfl (guard_off rfl rfl rfl hg6075) rfl rfl hS ?_
         refine drwp_off rfl (guard_off rfl rfl rfl hg6075) rfl rfl hS ?_
         refine drwp_off rfl (guard_off rfl rfl rfl hg6075) rfl rfl hS ?_
         refine drwp_off rfl (guard_off rfl rfl rfl hg6075) rfl rfl hS ?_
         refine drwp_off rfl (guard_off rfl rfl rfl hg6075) rfl rfl hS ?_
         refine drwp_off rfl (guard_off rfl rfl rfl hg6075) rfl rfl hS ?_
         refine drwp_off rfl (guard_off rfl rfl rfl hg6075) rfl rfl hS ?_
         refine drwp_off1 rfl (guard_off rfl rfl rfl hg6075) rfl rfl ⟨hS, ?_⟩
         refine drwp_off rfl (guard_off rfl rfl rfl hg6075) rfl rfl hS ?_
         have hg6077 : ((decide (0 < a5991)) && (decide (0 ≤ t6073))) = false := by simp only [hg6075, Bool.and_true, Bool.true_and, Bool.and_false, Bool.false_and, Bool.or_true, Bool.true_or, Bool.or_false, Bool.false_or, Bool.not_true, Bool.not_false, Bool.not_not]
         refine drwp_take (v := .bool ((decide (0 < a5991)) && (decide (0 ≤ t6073)))) rfl (guard_none rfl) rfl rfl (fun w_ hS_ => (ex_pand_f rfl rfl hg6075)) hS ?_
         refine drwp_done ?_
         replace HM := (HM.front 0 rfl rfl).drop
         exact at_meet [(0, p0), (9, p0), (10, .int .i64 (x0.length : Int)), (11, .int .i64 a5991), (53, .bool ((decide (0 < a5991)) && (decide (0 ≤ t6073))))] ⟨rfl, HM⟩ (Sub.cons rfl (Sub.cons rfl (Sub.cons rfl (Sub.cons rfl (Sub.cons rfl Sub.nil)))))
       ·rintro _ w6078 ⟨rfl, HM⟩
        refine at_then ?_
        refine run_cond (b := ((decide (0 < a5991)) && (decide (0 ≤ t6073)))) rfl (fun hb6079 => ?_) (fun hb6079 => ?_)
        ·replace ho5955 := cond_t hb6079 ho5955
         refine run_seq ?_
         refine run_region rfl ?_
         refine ox rfl rfl rfl rfl (ex_assign rfl rfl) ?_
         refine ops_nil (at_then ?_)
         refine run_ret ?_
         refine at_block_ret ?_
         refine at_then_ret ?_
         refine at_then_ret ?_
         refine at_block_ret ?_
         refine at_then_ret ?_
         have hR := Option.some.inj ho5955
         subst hR
         have hT := thn_inl H
         have hR := Option.some.inj hT
         subst hR
         exact at_ret1 rfl rfl ⟨_, rfl, rfl, HM⟩
        ·replace ho5955 := cond_f hb6079 ho5955
         refine run_skip ?_
         refine at_block ?_
         refine at_then ?_
         refine run_region rfl ?_
         refine ox rfl rfl rfl rfl (ex_add rfl rfl rfl) ?_
         refine ox rfl rfl rfl rfl (ex_move rfl rfl) ?_
         refine ops_nil ?_
         exact at_again k6027 (ρ1 := [(0, p0), (9, p0), (10, .int .i64 (x0.length : Int)), (11, .int .i64 (wrap64 (a5991 + 1)))]) (Nat.lt_succ_self _) ⟨_, ho5955, rfl, HM⟩ (Sub.cons rfl (Sub.cons rfl (Sub.cons rfl (Sub.cons rfl Sub.nil))))
   ·replace ho5955 := cond_f hb6029 ho5955
    refine run_exit ?_
    refine at_then_exit ?_
    refine at_then_exit ?_
    refine at_block_exit ?_
    exact at_mid (ρ' := []) ⟨(Option.some.inj ho5955), rfl, HM⟩ Sub.nil
  ·rintro _ w6080 ⟨rfl, rfl, HM⟩
   replace H := (thn_inr H)
   refine run_seq ?_
   refine run_region rfl ?_
   refine ox rfl rfl rfl rfl (ex_assign rfl rfl) ?_
   refine ops_nil (at_then ?_)
   refine run_ret ?_
   have hR := Option.some.inj H
   subst hR
   exact at_ret1 rfl rfl ⟨_, rfl, rfl, HM⟩
end Go.Proofs.YtpfaihnmonfkhaaGreatDoor.Zk
