/- What functions of the program compute, each as a plain function, and that they do. Conditions: as each theorem states them. -/
import Derived.Test.YtecgbhfgkkpmhaaFnCoinsZkF3
namespace Go.Proofs.Ytecgbhfgkkpmhaa.Zk
open Go Go.RowKit Go.IntWalk Go.Proofs
set_option linter.unusedVariables false
set_option linter.unusedSimpArgs false
set_option maxRecDepth 100000
set_option maxHeartbeats 4000000
def impl_within.f (k : Nat) (x0 : Int) (x1 : Int) (x2 : Int) : Option Bool := some ((decide (x1 ≤ x0)) && (decide (x0 ≤ x2)))
theorem impl_within.calls {k : Nat} {x0 : Int} {x1 : Int} {x2 : Int}  {w : World}  {r : Bool} (H : impl_within.f k x0 x1 x2 = some r) :
  Calls Try.prog 36 ([.int .i64 x0, .int .i64 x1, .int .i64 x2] : List Value).toArray w (fun e w_ => ∃ v, e = .returned v ∧ v = (.bool r) ∧ Mem w [] w_ []) := by
 have HM := Mem.start w
 refine calls_run (N := 15) Try.func36 rfl rfl rfl rfl ?_
 unfold impl_within.f at H
 refine run_seq ?_
 refine run_region rfl ?_
 refine ox rfl rfl rfl rfl (ex_assign rfl rfl) ?_
 refine ops_nil (at_then (run_seq ?_))
 refine run_meet (fun ρ_ w_ => ρ_ = [(6, .bool ((decide (x1 ≤ x0)) && (decide (x0 ≤ x2))))] ∧ Mem w [] w_ []) ?_ ?_
 ·skip
  refine run_region rfl ?_
  refine ox rfl rfl rfl rfl (ex_move rfl rfl) ?_
  refine ox rfl rfl rfl rfl (ex_move rfl rfl) ?_
  refine ox rfl rfl rfl rfl (ex_geq rfl rfl rfl) ?_
  refine ox rfl rfl rfl rfl (ex_move rfl rfl) ?_
  refine bool_cases (decide (x1 ≤ x0)) (fun hg3885 => ?_) (fun hg3885 => ?_)
  ·skip
   refine ops_ex rfl (guard_on rfl rfl rfl hg3885) rfl rfl (ex_move rfl rfl) ?_
   refine ops_ex rfl (guard_on rfl rfl rfl hg3885) rfl rfl (ex_move rfl rfl) ?_
   refine ops_ex rfl (guard_on rfl rfl rfl hg3885) rfl rfl (ex_leq rfl rfl rfl) ?_
   refine ops_ex (v := .bool ((decide (x1 ≤ x0)) && (decide (x0 ≤ x2)))) rfl (guard_none rfl) rfl rfl (ex_pand_t rfl rfl hg3885 rfl) ?_
   refine ox rfl rfl rfl rfl (ex_assign rfl rfl) ?_
   refine ops_nil ?_
   exact at_meet [(6, .bool ((decide (x1 ≤ x0)) && (decide (x0 ≤ x2))))] ⟨rfl, HM⟩ (Sub.cons rfl Sub.nil)
  ·skip
   refine ops_off rfl (guard_off rfl rfl rfl hg3885) rfl rfl ?_
   refine ops_off rfl (guard_off rfl rfl rfl hg3885) rfl rfl ?_
   refine ops_off rfl (guard_off rfl rfl rfl hg3885) rfl rfl ?_
   have hg3886 : ((decide (x1 ≤ x0)) && (decide (x0 ≤ x2))) = false := by simp only [hg3885, Bool.and_true, Bool.true_and, Bool.and_false, Bool.false_and, Bool.or_true, Bool.true_or, Bool.or_false, Bool.false_or, Bool.not_true, Bool.not_false, Bool.not_not]
   refine ops_ex (v := .bool ((decide (x1 ≤ x0)) && (decide (x0 ≤ x2)))) rfl (guard_none rfl) rfl rfl (ex_pand_f rfl rfl hg3885) ?_
   refine ox rfl rfl rfl rfl (ex_assign rfl rfl) ?_
   refine ops_nil ?_
   exact at_meet [(6, .bool ((decide (x1 ≤ x0)) && (decide (x0 ≤ x2))))] ⟨rfl, HM⟩ (Sub.cons rfl Sub.nil)
 ·rintro _ w3887 ⟨rfl, HM⟩
  refine at_then ?_
  refine run_ret ?_
  have hR := Option.some.inj H
  subst hR
  exact at_ret1 rfl rfl ⟨_, rfl, rfl, HM⟩

def impl_isId.f (k : Nat) (x0 : Int) : Option Bool := ((impl_within.f k x0 1 60).bind fun t3890 => some t3890)
theorem impl_isId.calls {k : Nat} {x0 : Int}  {w : World}  {r : Bool} (H : impl_isId.f k x0 = some r) :
  Calls Try.prog 44 ([.int .i64 x0] : List Value).toArray w (fun e w_ => ∃ v, e = .returned v ∧ v = (.bool r) ∧ Mem w [] w_ []) := by
 have HM := Mem.start w
 refine calls_run (N := 5) Try.func44 rfl rfl rfl rfl ?_
 unfold impl_isId.f at H
 refine run_seq ?_
 refine run_region rfl ?_
 refine ox rfl rfl rfl rfl (ex_assign rfl rfl) ?_
 refine ops_nil (at_then (run_seq ?_))
 obtain ⟨t3890, h3891, H⟩ := bind_some H
 refine run_region rfl ?_
 refine ox rfl rfl rfl rfl (ex_move rfl rfl) ?_
 refine od rfl rfl rfl rfl (does_callk rfl callok36 rfl (impl_within.calls (x0 := x0) (x1 := 1) (x2 := 60) h3891)) ?_
 rintro _ w3892 ⟨rfl, hn⟩
 replace HM : Mem w [] w3892 [] := HM.call hn
 refine ox rfl rfl rfl rfl (ex_assign rfl rfl) ?_
 refine ops_nil (at_then ?_)
 refine run_ret ?_
 have hR := Option.some.inj H
 subst hR
 exact at_ret1 rfl rfl ⟨_, rfl, rfl, HM⟩

def impl_isRef.f (k : Nat) (x0 : Ref) : Option Bool := ((impl_isId.f k x0.fTx).bind fun t3901 => ((bif t3901 then impl_within.f k x0.fAt 0 3 else some default).bind fun t3903 => some (t3901 && t3903)))
theorem impl_isRef.calls {k : Nat} {x0 : Ref}  {w : World}  {r : Bool} (H : impl_isRef.f k x0 = some r) :
  Calls Try.prog 34 ([.agg #[(.int .i64 x0.fTx), (.int .i64 x0.fAt)]] : List Value).toArray w (fun e w_ => ∃ v, e = .returned v ∧ v = (.bool r) ∧ Mem w [] w_ []) := by
 have HM := Mem.start w
 refine calls_run (N := 11) Try.func34 rfl rfl rfl rfl ?_
 unfold impl_isRef.f at H
 refine run_seq ?_
 refine run_region rfl ?_
 refine od rfl rfl rfl rfl (does_box (cs := [.int .i64 x0.fTx, .int .i64 x0.fAt]) rfl rfl rfl HM) ?_
 rintro _ w3900 ⟨b3897, rfl, HM⟩
 refine ox rfl rfl rfl rfl (ex_assign rfl rfl) ?_
 refine ops_nil (at_then (run_seq ?_))
 obtain ⟨t3901, h3902, H⟩ := bind_some H
 obtain ⟨t3903, h3904, H⟩ := bind_some H
 refine run_meet (fun ρ_ w_ => ρ_ = [(2, .bool (t3901 && t3903))] ∧ Mem w [] w_ []) ?_ ?_
 ·skip
  refine run_region rfl ?_
  refine ox rfl rfl rfl rfl (ex_fieldAddr (off' := 0) rfl rfl Try.underlying38 rfl tsz2 rfl) ?_
  refine ox rfl rfl rfl rfl (ex_load1 rfl rfl Try.underlying2 rfl ((HM.box_at 0 rfl) 0 _ rfl)) ?_
  refine od rfl rfl rfl rfl (does_callk rfl callok44 rfl (impl_isId.calls (x0 := x0.fTx) h3902)) ?_
  rintro _ w3905 ⟨rfl, hn⟩
  replace HM : Mem w [] w3905 [box b3897 38 [.int .i64 x0.fTx, .int .i64 x0.fAt]] := HM.call hn
  refine ox rfl rfl rfl rfl (ex_move rfl rfl) ?_
  refine bool_cases t3901 (fun hg3906 => ?_) (fun hg3906 => ?_)
  ·skip
   refine ops_ex rfl (guard_on rfl rfl rfl hg3906) rfl rfl (ex_fieldAddr (off' := 1) rfl rfl Try.underlying38 rfl tsz2 rfl) ?_
   refine ops_ex rfl (guard_on rfl rfl rfl hg3906) rfl rfl (ex_load1 rfl rfl Try.underlying2 rfl ((HM.box_at 0 rfl) 1 _ rfl)) ?_
   refine ops_does rfl (guard_on rfl rfl rfl hg3906) rfl rfl (does_callk rfl callok36 rfl (impl_within.calls (x0 := x0.fAt) (x1 := 0) (x2 := 3) (cond_t hg3906 h3904))) ?_
   rintro _ w3907 ⟨rfl, hn⟩
   replace HM : Mem w [] w3907 [box b3897 38 [.int .i64 x0.fTx, .int .i64 x0.fAt]] := HM.call hn
   refine ops_ex (v := .bool (t3901 && t3903)) rfl (guard_none rfl) rfl rfl (ex_pand_t rfl rfl hg3906 rfl) ?_
   refine ox rfl rfl rfl rfl (ex_assign rfl rfl) ?_
   refine ops_nil ?_
   replace HM := (HM.front 0 rfl rfl).drop
   exact at_meet [(2, .bool (t3901 && t3903))] ⟨rfl, HM⟩ (Sub.cons rfl Sub.nil)
  ·skip
   refine ops_off rfl (guard_off rfl rfl rfl hg3906) rfl rfl ?_
   refine ops_off rfl (guard_off rfl rfl rfl hg3906) rfl rfl ?_
   refine ops_off rfl (guard_off rfl rfl rfl hg3906) rfl rfl ?_
   have hg3908 : (t3901 && t3903) = false := by simp only [hg3906, Bool.and_true, Bool.true_and, Bool.and_false, Bool.false_and, Bool.or_true, Bool.true_or, Bool.or_false, Bool.false_or, Bool.not_true, Bool.not_false, Bool.not_not]
   refine ops_ex (v := .bool (t3901 && t3903)) rfl (guard_none rfl) rfl rfl (ex_pand_f rfl rfl hg3906) ?_
   refine ox rfl rfl rfl rfl (ex_assign rfl rfl) ?_
   refine ops_nil ?_
   replace HM := (HM.front 0 rfl rfl).drop
   exact at_meet [(2, .bool (t3901 && t3903))] ⟨rfl, HM⟩ (Sub.cons rfl Sub.nil)
 ·rintro _ w3909 ⟨rfl, HM⟩
  refine at_then ?_
  refine run_ret ?_
  have hR := Option.some.inj H
  subst hR
  exact at_ret1 rfl rfl ⟨_, rfl, rfl, HM⟩

def impl_isHeight.f (k : Nat) (x0 : Int) : Option Bool := ((impl_within.f k x0 0 999).bind fun t3914 => some t3914)
theorem impl_isHeight.calls {k : Nat} {x0 : Int}  {w : World}  {r : Bool} (H : impl_isHeight.f k x0 = some r) :
  Calls Try.prog 35 ([.int .i64 x0] : List Value).toArray w (fun e w_ => ∃ v, e = .returned v ∧ v = (.bool r) ∧ Mem w [] w_ []) := by
 have HM := Mem.start w
 refine calls_run (N := 5) Try.func35 rfl rfl rfl rfl ?_
 unfold impl_isHeight.f at H
 refine run_seq ?_
 refine run_region rfl ?_
 refine ox rfl rfl rfl rfl (ex_assign rfl rfl) ?_
 refine ops_nil (at_then (run_seq ?_))
 obtain ⟨t3914, h3915, H⟩ := bind_some H
 refine run_region rfl ?_
 refine ox rfl rfl rfl rfl (ex_move rfl rfl) ?_
 refine od rfl rfl rfl rfl (does_callk rfl callok36 rfl (impl_within.calls (x0 := x0) (x1 := 0) (x2 := 999) h3915)) ?_
 rintro _ w3916 ⟨rfl, hn⟩
 replace HM : Mem w [] w3916 [] := HM.call hn
 refine ox rfl rfl rfl rfl (ex_assign rfl rfl) ?_
 refine ops_nil (at_then ?_)
 refine run_ret ?_
 have hR := Option.some.inj H
 subst hR
 exact at_ret1 rfl rfl ⟨_, rfl, rfl, HM⟩

def impl_isKey.f (k : Nat) (x0 : Int) : Option Bool := ((impl_within.f k x0 1 999).bind fun t3940 => some t3940)
theorem impl_isKey.calls {k : Nat} {x0 : Int}  {w : World}  {r : Bool} (H : impl_isKey.f k x0 = some r) :
  Calls Try.prog 72 ([.int .i64 x0] : List Value).toArray w (fun e w_ => ∃ v, e = .returned v ∧ v = (.bool r) ∧ Mem w [] w_ []) := by
 have HM := Mem.start w
 refine calls_run (N := 5) Try.func72 rfl rfl rfl rfl ?_
 unfold impl_isKey.f at H
 refine run_seq ?_
 refine run_region rfl ?_
 refine ox rfl rfl rfl rfl (ex_assign rfl rfl) ?_
 refine ops_nil (at_then (run_seq ?_))
 obtain ⟨t3940, h3941, H⟩ := bind_some H
 refine run_region rfl ?_
 refine ox rfl rfl rfl rfl (ex_move rfl rfl) ?_
 refine od rfl rfl rfl rfl (does_callk rfl callok36 rfl (impl_within.calls (x0 := x0) (x1 := 1) (x2 := 999) h3941)) ?_
 rintro _ w3942 ⟨rfl, hn⟩
 replace HM : Mem w [] w3942 [] := HM.call hn
 refine ox rfl rfl rfl rfl (ex_assign rfl rfl) ?_
 refine ops_nil (at_then ?_)
 refine run_ret ?_
 have hR := Option.some.inj H
 subst hR
 exact at_ret1 rfl rfl ⟨_, rfl, rfl, HM⟩

def impl_areKeys_1.f (k : Nat) (x0 : Int) : Option Bool := ((impl_isKey.f k x0).bind fun t3945 => some (!t3945))
theorem impl_areKeys_1.calls {k : Nat} {x0 : Int}  {w : World}  {r : Bool} (H : impl_areKeys_1.f k x0 = some r) :
  Calls Try.prog 71 ([.int .i64 x0] : List Value).toArray w (fun e w_ => ∃ v, e = .returned v ∧ v = (.bool r) ∧ Mem w [] w_ []) := by
 have HM := Mem.start w
 refine calls_run (N := 6) Try.func71 rfl rfl rfl rfl ?_
 unfold impl_areKeys_1.f at H
 refine run_seq ?_
 refine run_region rfl ?_
 refine ox rfl rfl rfl rfl (ex_assign rfl rfl) ?_
 refine ops_nil (at_then (run_seq ?_))
 obtain ⟨t3945, h3946, H⟩ := bind_some H
 refine run_region rfl ?_
 refine ox rfl rfl rfl rfl (ex_move rfl rfl) ?_
 refine od rfl rfl rfl rfl (does_callk rfl callok72 rfl (impl_isKey.calls (x0 := x0) h3946)) ?_
 rintro _ w3947 ⟨rfl, hn⟩
 replace HM : Mem w [] w3947 [] := HM.call hn
 refine ox rfl rfl rfl rfl (ex_not rfl rfl) ?_
 refine ox rfl rfl rfl rfl (ex_assign rfl rfl) ?_
 refine ops_nil (at_then ?_)
 refine run_ret ?_
 have hR := Option.some.inj H
 subst hR
 exact at_ret1 rfl rfl ⟨_, rfl, rfl, HM⟩

def slices_IndexFunc_int64.l0 (x0 : List Int) : Nat → Int → Option (Int ⊕ Unit)
 | 0, _ => none
 | k + 1, a3993 => (bif (decide (a3993 < (x0.length : Int))) then (chk (idxOk a3993 x0.length) ((impl_areKeys_1.f k (gt x0 a3993)).bind fun t4005 => (bif t4005 then some (.inl a3993) else slices_IndexFunc_int64.l0 x0 k (wrap64 (a3993 + 1))))) else some (.inr ()))
theorem slices_IndexFunc_int64.l0_z (x0 : List Int) (a3993 : Int) : slices_IndexFunc_int64.l0 x0 0 a3993 = none := rfl
theorem slices_IndexFunc_int64.l0_s (x0 : List Int) (k : Nat) (a3993 : Int) : slices_IndexFunc_int64.l0 x0 (k + 1) a3993 = (bif (decide (a3993 < (x0.length : Int))) then (chk (idxOk a3993 x0.length) ((impl_areKeys_1.f k (gt x0 a3993)).bind fun t4005 => (bif t4005 then some (.inl a3993) else slices_IndexFunc_int64.l0 x0 k (wrap64 (a3993 + 1))))) else some (.inr ())) := rfl
def slices_IndexFunc_int64.f (k : Nat) (x0 : List Int) : Option Int := ((slices_IndexFunc_int64.l0 x0 k 0).bind fun o3985 => thn o3985 (fun r => some r) (fun _ => some (-1)))
theorem slices_IndexFunc_int64.calls {k : Nat} {x0 : List Int} {p0 : Value} {w : World} (hp0 : RdS kInt w p0 x0) {r : Int} (H : slices_IndexFunc_int64.f k x0 = some r) :
  Calls Try.prog 79 ([p0, .func (.func 71) #[] #[]] : List Value).toArray w (fun e w_ => ∃ v, e = .returned v ∧ v = (.int .i64 r) ∧ Mem w [] w_ []) := by
 have HM := Mem.start w
 refine calls_run (N := 19) Try.func79 rfl rfl rfl rfl ?_
 unfold slices_IndexFunc_int64.f at H
 refine run_seq ?_
 refine run_region rfl ?_
 refine ox rfl rfl rfl rfl (ex_assign rfl rfl) ?_
 refine ops_nil (at_then ?_)
 obtain ⟨o3985, ho3986, H⟩ := bind_some H
 refine run_mid (fun ρ_ w_ => Sum.inr () = o3985 ∧ ρ_ = [] ∧ Mem w [] w_ []) ?_ ?_
 ·skip
  refine run_seq ?_
  refine run_region rfl ?_
  refine ox rfl rfl rfl rfl (ex_move rfl rfl) ?_
  refine ox rfl rfl rfl rfl (ex_len (d := kInt) (xs := x0) rfl rfl Try.underlying32 hp0) ?_
  refine ox rfl rfl rfl rfl (ex_move rfl rfl) ?_
  refine ops_nil (at_then ?_)
  refine run_block ?_
  refine run_loop (fun k_ ρ_ w_ => ∃ a3993 : Int, slices_IndexFunc_int64.l0 x0 k_ a3993 = some o3985 ∧ ρ_ = [(0, p0), (1, .func (.func 71) #[] #[]), (7, .int .i64 (x0.length : Int)), (8, .int .i64 a3993)] ∧ Mem w [] w_ []) k (ρ1 := [(0, p0), (1, .func (.func 71) #[] #[]), (7, .int .i64 (x0.length : Int)), (8, .int .i64 0)]) ⟨_, ho3986, rfl, HM⟩ (Sub.cons rfl (Sub.cons rfl (Sub.cons rfl (Sub.cons rfl Sub.nil)))) ?_
  clear HM ho3986
  rintro k4000 _ w4001 ⟨a3993, ho3986, rfl, HM⟩
  obtain _ | k4000 := k4000
  ·exact nomatch ((slices_IndexFunc_int64.l0_z x0 a3993).symm.trans ho3986)
  replace ho3986 := (slices_IndexFunc_int64.l0_s x0 k4000 a3993).symm.trans ho3986
  refine run_seq ?_
  refine run_region rfl ?_
  refine ox rfl rfl rfl rfl (ex_lss rfl rfl rfl) ?_
  refine ops_nil (at_then (run_seq ?_))
  refine run_cond (b := (decide (a3993 < (x0.length : Int)))) rfl (fun hb4002 => ?_) (fun hb4002 => ?_)
  ·replace ho3986 := cond_t hb4002 ho3986
   refine run_skip ?_
   refine at_then ?_
   refine run_seq ?_
   refine run_block ?_
   refine run_seq ?_
   refine run_region rfl ?_
   refine ox rfl rfl rfl rfl (ex_move rfl rfl) ?_
   refine ox rfl rfl rfl rfl (ex_assign rfl rfl) ?_
   refine ops_nil (at_then (run_seq ?_))
   obtain ⟨e4003, ho3986⟩ := chk_some ho3986
   obtain ⟨t4005, h4006, ho3986⟩ := bind_some ho3986
   refine run_region rfl ?_
   refine ox rfl rfl rfl rfl (ex_move rfl rfl) ?_
   refine ox rfl rfl rfl rfl (ex_move rfl rfl) ?_
   refine ox rfl rfl rfl rfl (ex_move rfl rfl) ?_
   have hc4004 : CellsAt _ (sb p0) (so p0 + (a3993).toNat * 1) [(.int .i64 (gt x0 a3993))] := rd_plain hp0 e4003
   refine ox rfl rfl rfl rfl (ex_indexAddr (d := kInt) rfl rfl rfl Try.underlying32 tsz2 hp0 (idx_lo e4003) (idx_hi e4003)) ?_
   refine ox rfl rfl rfl rfl (ex_load1 rfl rfl Try.underlying2 rfl ((HM.at_ hc4004) 0 _ rfl)) ?_
   refine od rfl rfl rfl rfl (does_callvk rfl callok71 rfl rfl rfl (impl_areKeys_1.calls (x0 := (gt x0 a3993)) h4006)) ?_
   rintro _ w4007 ⟨rfl, hn⟩
   replace HM : Mem w [] w4007 [] := HM.call hn
   refine ops_nil (at_then ?_)
   refine run_cond (b := t4005) rfl (fun hb4008 => ?_) (fun hb4008 => ?_)
   ·replace ho3986 := cond_t hb4008 ho3986
    refine run_seq ?_
    refine run_region rfl ?_
    refine ox rfl rfl rfl rfl (ex_move rfl rfl) ?_
    refine ox rfl rfl rfl rfl (ex_assign rfl rfl) ?_
    refine ops_nil (at_then ?_)
    refine run_ret ?_
    refine at_block_ret ?_
    refine at_then_ret ?_
    refine at_then_ret ?_
    refine at_block_ret ?_
    refine at_then_ret ?_
    have hR := Option.some.inj ho3986
    subst hR
    have hT := thn_inl H
    have hR := Option.some.inj hT
    subst hR
    exact at_ret1 rfl rfl ⟨_, rfl, rfl, HM⟩
   ·replace ho3986 := cond_f hb4008 ho3986
    refine run_skip ?_
    refine at_block ?_
    refine at_then ?_
    refine run_region rfl ?_
    refine ox rfl rfl rfl rfl (ex_add rfl rfl rfl) ?_
    refine ox rfl rfl rfl rfl (ex_move rfl rfl) ?_
    refine ops_nil ?_
    exact at_again k4000 (ρ1 := [(0, p0), (1, .func (.func 71) #[] #[]), (7, .int .i64 (x0.length : Int)), (8, .int .i64 (wrap64 (a3993 + 1)))]) (Nat.lt_succ_self _) ⟨_, ho3986, rfl, HM⟩ (Sub.cons rfl (Sub.cons rfl (Sub.cons rfl (Sub.cons rfl Sub.nil))))
  ·replace ho3986 := cond_f hb4002 ho3986
   refine run_exit ?_
   refine at_then_exit ?_
   refine at_then_exit ?_
   refine at_block_exit ?_
   exact at_mid (ρ' := []) ⟨(Option.some.inj ho3986), rfl, HM⟩ Sub.nil
 ·rintro _ w4009 ⟨rfl, rfl, HM⟩
  replace H := (thn_inr H)
  refine run_seq ?_
  refine run_region rfl ?_
  refine ox rfl rfl rfl rfl (ex_assign rfl rfl) ?_
  refine ops_nil (at_then ?_)
  refine run_ret ?_
  have hR := Option.some.inj H
  subst hR
  exact at_ret1 rfl rfl ⟨_, rfl, rfl, HM⟩

def slices_ContainsFunc_int64.f (k : Nat) (x0 : List Int) : Option Bool := ((slices_IndexFunc_int64.f k x0).bind fun t4012 => some (decide (0 ≤ t4012)))
theorem slices_ContainsFunc_int64.calls {k : Nat} {x0 : List Int} {p0 : Value} {w : World} (hp0 : RdS kInt w p0 x0) {r : Bool} (H : slices_ContainsFunc_int64.f k x0 = some r) :
  Calls Try.prog 70 ([p0, .func (.func 71) #[] #[]] : List Value).toArray w (fun e w_ => ∃ v, e = .returned v ∧ v = (.bool r) ∧ Mem w [] w_ []) := by
 have HM := Mem.start w
 refine calls_run (N := 9) Try.func70 rfl rfl rfl rfl ?_
 unfold slices_ContainsFunc_int64.f at H
 refine run_seq ?_
 refine run_region rfl ?_
 refine ox rfl rfl rfl rfl (ex_assign rfl rfl) ?_
 refine ops_nil (at_then (run_seq ?_))
 obtain ⟨t4012, h4013, H⟩ := bind_some H
 refine run_region rfl ?_
 refine ox rfl rfl rfl rfl (ex_move rfl rfl) ?_
 refine ox rfl rfl rfl rfl (ex_move rfl rfl) ?_
 refine od rfl rfl rfl rfl (does_callk rfl callok79 rfl (slices_IndexFunc_int64.calls (x0 := x0) (HM.rd hp0) h4013)) ?_
 rintro _ w4014 ⟨rfl, hn⟩
 replace HM : Mem w [] w4014 [] := HM.call hn
 refine ox rfl rfl rfl rfl (ex_geq rfl rfl rfl) ?_
 refine ox rfl rfl rfl rfl (ex_assign rfl rfl) ?_
 refine ops_nil (at_then ?_)
 refine run_ret ?_
 have hR := Option.some.inj H
 subst hR
 exact at_ret1 rfl rfl ⟨_, rfl, rfl, HM⟩

def impl_areKeys.f (k : Nat) (x0 : List Int) : Option Bool := ((slices_ContainsFunc_int64.f k x0).bind fun t4017 => some (!t4017))
theorem impl_areKeys.calls {k : Nat} {x0 : List Int} {p0 : Value} {w : World} (hp0 : RdS kInt w p0 x0) {r : Bool} (H : impl_areKeys.f k x0 = some r) :
  Calls Try.prog 59 ([p0] : List Value).toArray w (fun e w_ => ∃ v, e = .returned v ∧ v = (.bool r) ∧ Mem w [] w_ []) := by
 have HM := Mem.start w
 refine calls_run (N := 6) Try.func59 rfl rfl rfl rfl ?_
 unfold impl_areKeys.f at H
 refine run_seq ?_
 refine run_region rfl ?_
 refine ox rfl rfl rfl rfl (ex_assign rfl rfl) ?_
 refine ops_nil (at_then (run_seq ?_))
 obtain ⟨t4017, h4018, H⟩ := bind_some H
 refine run_region rfl ?_
 refine ox rfl rfl rfl rfl (ex_move rfl rfl) ?_
 refine od rfl rfl rfl rfl (does_callk rfl callok70 rfl (slices_ContainsFunc_int64.calls (x0 := x0) (HM.rd hp0) h4018)) ?_
 rintro _ w4019 ⟨rfl, hn⟩
 replace HM : Mem w [] w4019 [] := HM.call hn
 refine ox rfl rfl rfl rfl (ex_not rfl rfl) ?_
 refine ox rfl rfl rfl rfl (ex_assign rfl rfl) ?_
 refine ops_nil (at_then ?_)
 refine run_ret ?_
 have hR := Option.some.inj H
 subst hR
 exact at_ret1 rfl rfl ⟨_, rfl, rfl, HM⟩

def impl_isRising.l0 (x0 : List Int) : Nat → Int → Option (Bool ⊕ Unit)
 | 0, _ => none
 | k + 1, a4075 => (bif (decide (a4075 < (x0.length : Int))) then (chk (idxOk a4075 x0.length) (chk (idxOk (wrap64 (a4075 - 1)) x0.length) (bif (decide ((gt x0 a4075) ≤ (gt x0 (wrap64 (a4075 - 1))))) then some (.inl false) else impl_isRising.l0 x0 k (wrap64 (a4075 + 1))))) else some (.inr ()))
theorem impl_isRising.l0_z (x0 : List Int) (a4075 : Int) : impl_isRising.l0 x0 0 a4075 = none := rfl
theorem impl_isRising.l0_s (x0 : List Int) (k : Nat) (a4075 : Int) : impl_isRising.l0 x0 (k + 1) a4075 = (bif (decide (a4075 < (x0.length : Int))) then (chk (idxOk a4075 x0.length) (chk (idxOk (wrap64 (a4075 - 1)) x0.length) (bif (decide ((gt x0 a4075) ≤ (gt x0 (wrap64 (a4075 - 1))))) then some (.inl false) else impl_isRising.l0 x0 k (wrap64 (a4075 + 1))))) else some (.inr ())) := rfl
def impl_isRising.f (k : Nat) (x0 : List Int) : Option Bool := ((impl_isRising.l0 x0 k 1).bind fun o4067 => thn o4067 (fun r => some r) (fun _ => some true))
theorem impl_isRising.calls {k : Nat} {x0 : List Int} {p0 : Value} {w : World} (hp0 : RdS kInt w p0 x0) {r : Bool} (H : impl_isRising.f k x0 = some r) :
  Calls Try.prog 60 ([p0] : List Value).toArray w (fun e w_ => ∃ v, e = .returned v ∧ v = (.bool r) ∧ Mem w [] w_ []) := by
 have HM := Mem.start w
 refine calls_run (N := 20) Try.func60 rfl rfl rfl rfl ?_
 unfold impl_isRising.f at H
 refine run_seq ?_
 refine run_region rfl ?_
 refine ox rfl rfl rfl rfl (ex_assign rfl rfl) ?_
 refine ops_nil (at_then ?_)
 obtain ⟨o4067, ho4068, H⟩ := bind_some H
 refine run_mid (fun ρ_ w_ => Sum.inr () = o4067 ∧ ρ_ = [] ∧ Mem w [] w_ []) ?_ ?_
 ·skip
  refine run_seq ?_
  refine run_region rfl ?_
  refine ox rfl rfl rfl rfl (ex_assign rfl rfl) ?_
  refine ops_nil (at_then ?_)
  refine run_block ?_
  refine run_loop (fun k_ ρ_ w_ => ∃ a4075 : Int, impl_isRising.l0 x0 k_ a4075 = some o4067 ∧ ρ_ = [(0, p0), (3, .int .i64 a4075)] ∧ Mem w [] w_ []) k (ρ1 := [(0, p0), (3, .int .i64 1)]) ⟨_, ho4068, rfl, HM⟩ (Sub.cons rfl (Sub.cons rfl Sub.nil)) ?_
  clear HM ho4068
  rintro k4082 _ w4083 ⟨a4075, ho4068, rfl, HM⟩
  obtain _ | k4082 := k4082
  ·exact nomatch ((impl_isRising.l0_z x0 a4075).symm.trans ho4068)
  replace ho4068 := (impl_isRising.l0_s x0 k4082 a4075).symm.trans ho4068
  refine run_seq ?_
  refine run_seq ?_
  refine run_region rfl ?_
  refine ox rfl rfl rfl rfl (ex_move rfl rfl) ?_
  refine ox rfl rfl rfl rfl (ex_move rfl rfl) ?_
  refine ox rfl rfl rfl rfl (ex_len (d := kInt) (xs := x0) rfl rfl Try.underlying32 hp0) ?_
  refine ox rfl rfl rfl rfl (ex_lss rfl rfl rfl) ?_
  refine ops_nil (at_then ?_)
  refine run_cond (b := (decide (a4075 < (x0.length : Int)))) rfl (fun hb4084 => ?_) (fun hb4084 => ?_)
  ·replace ho4068 := cond_t hb4084 ho4068
   refine run_skip ?_
   refine at_then ?_
   refine run_seq ?_
   refine run_block ?_
   refine run_seq ?_
   obtain ⟨e4085, ho4068⟩ := chk_some ho4068
   obtain ⟨e4087, ho4068⟩ := chk_some ho4068
   refine run_drawf (fun w_ => Mem w [] w_ []) [(0, true), (1, true), (2, true), (3, true), (4, true), (5, true), (6, true), (7, true), (8, true), (9, true)] mixed rfl rfl (by kernel_rfl) ?_
   replace HM := HM.grow (fr_drew _)
   have hS := Mem.suf (M := []) HM
   refine dp rfl rfl rfl rfl (ex_move rfl rfl) hS ?_
   refine dp rfl rfl rfl rfl (ex_move rfl rfl) hS ?_
   have hc4086 : CellsAt _ (sb p0) (so p0 + (a4075).toNat * 1) [(.int .i64 (gt x0 a4075))] := rd_plain hp0 e4085
   refine dp rfl rfl rfl rfl (ex_indexAddr (d := kInt) rfl rfl rfl Try.underlying32 tsz2 hp0 (idx_lo e4085) (idx_hi e4085)) hS ?_
   refine drwp_take rfl (guard_none rfl) rfl rfl (fun w_ hS_ => (ex_load1 rfl rfl Try.underlying2 rfl ((hS_.at_ hc4086) 0 _ rfl))) hS ?_
   refine dp rfl rfl rfl rfl (ex_move rfl rfl) hS ?_
   refine dp rfl rfl rfl rfl (ex_move rfl rfl) hS ?_
   refine dp rfl rfl rfl rfl (ex_sub rfl rfl rfl) hS ?_
   have hc4088 : CellsAt _ (sb p0) (so p0 + (wrap64 (a4075 - 1)).toNat * 1) [(.int .i64 (gt x0 (wrap64 (a4075 - 1))))] := rd_plain hp0 e4087
   refine dp rfl rfl rfl rfl (ex_indexAddr (d := kInt) rfl rfl rfl Try.underlying32 tsz2 hp0 (idx_lo e4087) (idx_hi e4087)) hS ?_
   refine drwp_take rfl (guard_none rfl) rfl rfl (fun w_ hS_ => (ex_load1 rfl rfl Try.underlying2 rfl ((hS_.at_ hc4088) 0 _ rfl))) hS ?_
   refine dp rfl rfl rfl rfl (ex_leq rfl rfl rfl) hS ?_
   refine drwp_done ?_
   refine at_then ?_
   refine run_cond (b := (decide ((gt x0 a4075) ≤ (gt x0 (wrap64 (a4075 - 1)))))) rfl (fun hb4089 => ?_) (fun hb4089 => ?_)
   ·replace ho4068 := cond_t hb4089 ho4068
    refine run_seq ?_
    refine run_region rfl ?_
    refine ox rfl rfl rfl rfl (ex_assign rfl rfl) ?_
    refine ops_nil (at_then ?_)
    refine run_ret ?_
    refine at_block_ret ?_
    refine at_then_ret ?_
    refine at_then_ret ?_
    refine at_block_ret ?_
    refine at_then_ret ?_
    have hR := Option.some.inj ho4068
    subst hR
    have hT := thn_inl H
    have hR := Option.some.inj hT
    subst hR
    exact at_ret1 rfl rfl ⟨_, rfl, rfl, HM⟩
   ·replace ho4068 := cond_f hb4089 ho4068
    refine run_skip ?_
    refine at_block ?_
    refine at_then ?_
    refine run_region rfl ?_
    refine ox rfl rfl rfl rfl (ex_move rfl rfl) ?_
    refine ox rfl rfl rfl rfl (ex_add rfl rfl rfl) ?_
    refine ox rfl rfl rfl rfl (ex_assign rfl rfl) ?_
    refine ops_nil ?_
    exact at_again k4082 (ρ1 := [(0, p0), (3, .int .i64 (wrap64 (a4075 + 1)))]) (Nat.lt_succ_self _) ⟨_, ho4068, rfl, HM⟩ (Sub.cons rfl (Sub.cons rfl Sub.nil))
  ·replace ho4068 := cond_f hb4084 ho4068
   refine run_exit ?_
   refine at_then_exit ?_
   refine at_then_exit ?_
   refine at_block_exit ?_
   exact at_mid (ρ' := []) ⟨(Option.some.inj ho4068), rfl, HM⟩ Sub.nil
 ·rintro _ w4090 ⟨rfl, rfl, HM⟩
  replace H := (thn_inr H)
  refine run_seq ?_
  refine run_region rfl ?_
  refine ox rfl rfl rfl rfl (ex_assign rfl rfl) ?_
  refine ops_nil (at_then ?_)
  refine run_ret ?_
  have hR := Option.some.inj H
  subst hR
  exact at_ret1 rfl rfl ⟨_, rfl, rfl, HM⟩

def impl_RuleFault.f (k : Nat) (x0 : Rule) : Option Int := ((impl_within.f k (x0.fKeys.length : Int) 1 3).bind fun t4098 => (bif !t4098 then some 2 else ((impl_areKeys.f k x0.fKeys).bind fun t4102 => ((bif (!(!t4102)) then impl_within.f k x0.fNeed 1 (x0.fKeys.length : Int) else some default).bind fun t4104 => ((bif (!((!t4102) || (!t4104))) then impl_isHeight.f k x0.fAfter else some default).bind fun t4106 => (bif (((!t4102) || (!t4104)) || (!t4106)) then some 3 else ((impl_isRising.f k x0.fKeys).bind fun t4118 => (bif !t4118 then some 1 else some 0))))))))
theorem impl_RuleFault.calls {k : Nat} {x0 : Rule} {p0_0 : Value} {w : World} (hp0_0 : RdS kInt w p0_0 x0.fKeys) {r : Int} (H : impl_RuleFault.f k x0 = some r) :
  Calls Try.prog 37 ([.agg #[p0_0, (.int .i64 x0.fNeed), (.int .i64 x0.fAfter)]] : List Value).toArray w (fun e w_ => ∃ v, e = .returned v ∧ v = (.int .i64 r) ∧ Mem w [] w_ []) := by
 have HM := Mem.start w
 refine calls_run (N := 34) Try.func37 rfl rfl rfl rfl ?_
 unfold impl_RuleFault.f at H
 refine run_seq ?_
 refine run_region rfl ?_
 refine od rfl rfl rfl rfl (does_box (cs := [p0_0, .int .i64 x0.fNeed, .int .i64 x0.fAfter]) rfl rfl rfl HM) ?_
 rintro _ w4097 ⟨b4094, rfl, HM⟩
 refine ox rfl rfl rfl rfl (ex_assign rfl rfl) ?_
 refine ops_nil (at_then (run_seq ?_))
 refine run_region rfl ?_
 refine ox rfl rfl rfl rfl (ex_fieldAddr (off' := 0) rfl rfl Try.underlying34 rfl tsz32 rfl) ?_
 refine ox rfl rfl rfl rfl (ex_load1 rfl rfl Try.underlying32 rfl ((HM.box_at 0 rfl) 0 _ rfl)) ?_
 refine ox rfl rfl rfl rfl (ex_len (d := kInt) (xs := x0.fKeys) rfl rfl Try.underlying32 hp0_0) ?_
 refine ox rfl rfl rfl rfl (ex_assign rfl rfl) ?_
 refine ops_nil (at_then (run_seq ?_))
 refine run_block ?_
 refine run_seq ?_
 obtain ⟨t4098, h4099, H⟩ := bind_some H
 refine run_region rfl ?_
 refine ox rfl rfl rfl rfl (ex_move rfl rfl) ?_
 refine od rfl rfl rfl rfl (does_callk rfl callok36 rfl (impl_within.calls (x0 := (x0.fKeys.length : Int)) (x1 := 1) (x2 := 3) h4099)) ?_
 rintro _ w4100 ⟨rfl, hn⟩
 replace HM : Mem w [] w4100 [box b4094 34 [p0_0, .int .i64 x0.fNeed, .int .i64 x0.fAfter]] := HM.call hn
 refine ox rfl rfl rfl rfl (ex_not rfl rfl) ?_
 refine ox rfl rfl rfl rfl (ex_assign rfl rfl) ?_
 refine ops_nil (at_then ?_)
 refine run_cond (b := !t4098) rfl (fun hb4101 => ?_) (fun hb4101 => ?_)
 ·replace H := cond_t hb4101 H
  refine run_seq ?_
  refine run_region rfl ?_
  refine ox rfl rfl rfl rfl (ex_assign rfl rfl) ?_
  refine ops_nil (at_then ?_)
  refine run_ret ?_
  refine at_block_ret ?_
  refine at_then_ret ?_
  replace HM := (HM.front 0 rfl rfl).drop
  have hR := Option.some.inj H
  subst hR
  exact at_ret1 rfl rfl ⟨_, rfl, rfl, HM⟩
 ·replace H := cond_f hb4101 H
  refine run_seq ?_
  obtain ⟨t4102, h4103, H⟩ := bind_some H
  obtain ⟨t4104, h4105, H⟩ := bind_some H
  obtain ⟨t4106, h4107, H⟩ := bind_some H
  refine run_meet (fun ρ_ w_ => ρ_ = [(1, .pointer (some ⟨b4094, 0, none⟩)), (11, .bool (((!t4102) || (!t4104)) || (!t4106)))] ∧ Mem w [] w_ [box b4094 34 [p0_0, .int .i64 x0.fNeed, .int .i64 x0.fAfter]]) ?_ ?_
  ·skip
   refine run_region rfl ?_
   refine ox rfl rfl rfl rfl (ex_fieldAddr (off' := 0) rfl rfl Try.underlying34 rfl tsz32 rfl) ?_
   refine ox rfl rfl rfl rfl (ex_load1 rfl rfl Try.underlying32 rfl ((HM.box_at 0 rfl) 0 _ rfl)) ?_
   refine od rfl rfl rfl rfl (does_callk rfl callok59 rfl (impl_areKeys.calls (x0 := x0.fKeys) (HM.rd hp0_0) h4103)) ?_
   rintro _ w4108 ⟨rfl, hn⟩
   replace HM : Mem w [] w4108 [box b4094 34 [p0_0, .int .i64 x0.fNeed, .int .i64 x0.fAfter]] := HM.call hn
   refine ox rfl rfl rfl rfl (ex_not rfl rfl) ?_
   refine ox rfl rfl rfl rfl (ex_move rfl rfl) ?_
   refine bool_cases (!t4102) (fun hg4109 => ?_) (fun hg4109 => ?_)
   ·skip
    refine ops_off rfl (guard_off rfl rfl rfl hg4109) rfl rfl ?_
    refine ops_off rfl (guard_off rfl rfl rfl hg4109) rfl rfl ?_
    refine ops_off rfl (guard_off rfl rfl rfl hg4109) rfl rfl ?_
    refine ops_off rfl (guard_off rfl rfl rfl hg4109) rfl rfl ?_
    refine ops_off rfl (guard_off rfl rfl rfl hg4109) rfl rfl ?_
    have hg4110 : ((!t4102) || (!t4104)) = true := by simp only [hg4109, Bool.and_true, Bool.true_and, Bool.and_false, Bool.false_and, Bool.or_true, Bool.true_or, Bool.or_false, Bool.false_or, Bool.not_true, Bool.not_false, Bool.not_not]
    refine ops_ex (v := .bool ((!t4102) || (!t4104))) rfl (guard_none rfl) rfl rfl (ex_por_t rfl rfl hg4109) ?_
    refine ox rfl rfl rfl rfl (ex_move rfl rfl) ?_
    refine ops_off rfl (guard_off rfl rfl rfl hg4110) rfl rfl ?_
    refine ops_off rfl (guard_off rfl rfl rfl hg4110) rfl rfl ?_
    refine ops_off rfl (guard_off rfl rfl rfl hg4110) rfl rfl ?_
    refine ops_off rfl (guard_off rfl rfl rfl hg4110) rfl rfl ?_
    have hg4111 : (((!t4102) || (!t4104)) || (!t4106)) = true := by simp only [hg4110, Bool.and_true, Bool.true_and, Bool.and_false, Bool.false_and, Bool.or_true, Bool.true_or, Bool.or_false, Bool.false_or, Bool.not_true, Bool.not_false, Bool.not_not]
    refine ops_ex (v := .bool (((!t4102) || (!t4104)) || (!t4106))) rfl (guard_none rfl) rfl rfl (ex_por_t rfl rfl hg4110) ?_
    refine ox rfl rfl rfl rfl (ex_assign rfl rfl) ?_
    refine ops_nil ?_
    exact at_meet [(1, .pointer (some ⟨b4094, 0, none⟩)), (11, .bool (((!t4102) || (!t4104)) || (!t4106)))] ⟨rfl, HM⟩ (Sub.cons rfl (Sub.cons rfl Sub.nil))
   ·skip
    refine ops_ex rfl (guard_on rfl rfl rfl hg4109) rfl rfl (ex_fieldAddr (off' := 1) rfl rfl Try.underlying34 rfl tsz2 rfl) ?_
    refine ops_ex rfl (guard_on rfl rfl rfl hg4109) rfl rfl (ex_load1 rfl rfl Try.underlying2 rfl ((HM.box_at 0 rfl) 1 _ rfl)) ?_
    refine ops_ex rfl (guard_on rfl rfl rfl hg4109) rfl rfl (ex_move rfl rfl) ?_
    refine ops_does rfl (guard_on rfl rfl rfl hg4109) rfl rfl (does_callk rfl callok36 rfl (impl_within.calls (x0 := x0.fNeed) (x1 := 1) (x2 := (x0.fKeys.length : Int)) (cond_t (not_mk hg4109) h4105))) ?_
    rintro _ w4112 ⟨rfl, hn⟩
    replace HM : Mem w [] w4112 [box b4094 34 [p0_0, .int .i64 x0.fNeed, .int .i64 x0.fAfter]] := HM.call hn
    refine ops_ex rfl (guard_on rfl rfl rfl hg4109) rfl rfl (ex_not rfl rfl) ?_
    refine ops_ex (v := .bool ((!t4102) || (!t4104))) rfl (guard_none rfl) rfl rfl (ex_por_f rfl rfl hg4109 rfl) ?_
    refine ox rfl rfl rfl rfl (ex_move rfl rfl) ?_
    refine bool_cases ((!t4102) || (!t4104)) (fun hg4113 => ?_) (fun hg4113 => ?_)
    ·skip
     refine ops_off rfl (guard_off rfl rfl rfl hg4113) rfl rfl ?_
     refine ops_off rfl (guard_off rfl rfl rfl hg4113) rfl rfl ?_
     refine ops_off rfl (guard_off rfl rfl rfl hg4113) rfl rfl ?_
     refine ops_off rfl (guard_off rfl rfl rfl hg4113) rfl rfl ?_
     have hg4114 : (((!t4102) || (!t4104)) || (!t4106)) = true := by simp only [hg4113, Bool.and_true, Bool.true_and, Bool.and_false, Bool.false_and, Bool.or_true, Bool.true_or, Bool.or_false, Bool.false_or, Bool.not_true, Bool.not_false, Bool.not_not]
     refine ops_ex (v := .bool (((!t4102) || (!t4104)) || (!t4106))) rfl (guard_none rfl) rfl rfl (ex_por_t rfl rfl hg4113) ?_
     refine ox rfl rfl rfl rfl (ex_assign rfl rfl) ?_
     refine ops_nil ?_
     exact at_meet [(1, .pointer (some ⟨b4094, 0, none⟩)), (11, .bool (((!t4102) || (!t4104)) || (!t4106)))] ⟨rfl, HM⟩ (Sub.cons rfl (Sub.cons rfl Sub.nil))
    ·skip
     refine ops_ex rfl (guard_on rfl rfl rfl hg4113) rfl rfl (ex_fieldAddr (off' := 2) rfl rfl Try.underlying34 rfl tsz2 rfl) ?_
     refine ops_ex rfl (guard_on rfl rfl rfl hg4113) rfl rfl (ex_load1 rfl rfl Try.underlying2 rfl ((HM.box_at 0 rfl) 2 _ rfl)) ?_
     refine ops_does rfl (guard_on rfl rfl rfl hg4113) rfl rfl (does_callk rfl callok35 rfl (impl_isHeight.calls (x0 := x0.fAfter) (cond_t (not_mk hg4113) h4107))) ?_
     rintro _ w4115 ⟨rfl, hn⟩
     replace HM : Mem w [] w4115 [box b4094 34 [p0_0, .int .i64 x0.fNeed, .int .i64 x0.fAfter]] := HM.call hn
     refine ops_ex rfl (guard_on rfl rfl rfl hg4113) rfl rfl (ex_not rfl rfl) ?_
     refine ops_ex (v := .bool (((!t4102) || (!t4104)) || (!t4106))) rfl (guard_none rfl) rfl rfl (ex_por_f rfl rfl hg4113 rfl) ?_
     refine ox rfl rfl rfl rfl (ex_assign rfl rfl) ?_
     refine ops_nil ?_
     exact at_meet [(1, .pointer (some ⟨b4094, 0, none⟩)), (11, .bool (((!t4102) || (!t4104)) || (!t4106)))] ⟨rfl, HM⟩ (Sub.cons rfl (Sub.cons rfl Sub.nil))
  ·rintro _ w4116 ⟨rfl, HM⟩
   refine at_then ?_
   refine run_cond (b := (((!t4102) || (!t4104)) || (!t4106))) rfl (fun hb4117 => ?_) (fun hb4117 => ?_)
   ·replace H := cond_t hb4117 H
    refine run_seq ?_
    refine run_region rfl ?_
    refine ox rfl rfl rfl rfl (ex_assign rfl rfl) ?_
    refine ops_nil (at_then ?_)
    refine run_ret ?_
    refine at_block_ret ?_
    refine at_then_ret ?_
    replace HM := (HM.front 0 rfl rfl).drop
    have hR := Option.some.inj H
    subst hR
    exact at_ret1 rfl rfl ⟨_, rfl, rfl, HM⟩
   ·replace H := cond_f hb4117 H
    refine run_seq ?_
    obtain ⟨t4118, h4119, H⟩ := bind_some H
    refine run_region rfl ?_
    refine ox rfl rfl rfl rfl (ex_fieldAddr (off' := 0) rfl rfl Try.underlying34 rfl tsz32 rfl) ?_
    refine ox rfl rfl rfl rfl (ex_load1 rfl rfl Try.underlying32 rfl ((HM.box_at 0 rfl) 0 _ rfl)) ?_
    refine od rfl rfl rfl rfl (does_callk rfl callok60 rfl (impl_isRising.calls (x0 := x0.fKeys) (HM.rd hp0_0) h4119)) ?_
    rintro _ w4120 ⟨rfl, hn⟩
    replace HM : Mem w [] w4120 [box b4094 34 [p0_0, .int .i64 x0.fNeed, .int .i64 x0.fAfter]] := HM.call hn
    refine ox rfl rfl rfl rfl (ex_not rfl rfl) ?_
    refine ox rfl rfl rfl rfl (ex_assign rfl rfl) ?_
    refine ops_nil (at_then ?_)
    refine run_cond (b := !t4118) rfl (fun hb4121 => ?_) (fun hb4121 => ?_)
    ·replace H := cond_t hb4121 H
     refine run_seq ?_
     refine run_region rfl ?_
     refine ox rfl rfl rfl rfl (ex_assign rfl rfl) ?_
     refine ops_nil (at_then ?_)
     refine run_ret ?_
     refine at_block_ret ?_
     refine at_then_ret ?_
     replace HM := (HM.front 0 rfl rfl).drop
     have hR := Option.some.inj H
     subst hR
     exact at_ret1 rfl rfl ⟨_, rfl, rfl, HM⟩
    ·replace H := cond_f hb4121 H
     refine run_skip ?_
     refine at_block ?_
     refine at_then ?_
     refine run_seq ?_
     refine run_region rfl ?_
     refine ox rfl rfl rfl rfl (ex_assign rfl rfl) ?_
     refine ops_nil (at_then ?_)
     refine run_ret ?_
     replace HM := (HM.front 0 rfl rfl).drop
     have hR := Option.some.inj H
     subst hR
     exact at_ret1 rfl rfl ⟨_, rfl, rfl, HM⟩

def cmp_isNaN_int64.f (k : Nat) (x0 : Int) : Option Bool := some (x0 != x0)
theorem cmp_isNaN_int64.calls {k : Nat} {x0 : Int}  {w : World}  {r : Bool} (H : cmp_isNaN_int64.f k x0 = some r) :
  Calls Try.prog 73 ([.int .i64 x0] : List Value).toArray w (fun e w_ => ∃ v, e = .returned v ∧ v = (.bool r) ∧ Mem w [] w_ []) := by
 have HM := Mem.start w
 refine calls_run (N := 6) Try.func73 rfl rfl rfl rfl ?_
 unfold cmp_isNaN_int64.f at H
 refine run_seq ?_
 refine run_region rfl ?_
 refine ox rfl rfl rfl rfl (ex_assign rfl rfl) ?_
 refine ops_nil (at_then (run_seq ?_))
 refine run_region rfl ?_
 refine ox rfl rfl rfl rfl (ex_move rfl rfl) ?_
 refine ox rfl rfl rfl rfl (ex_move rfl rfl) ?_
 refine ox rfl rfl rfl rfl (ex_neq rfl rfl rfl) ?_
 refine ox rfl rfl rfl rfl (ex_assign rfl rfl) ?_
 refine ops_nil (at_then ?_)
 refine run_ret ?_
 have hR := Option.some.inj H
 subst hR
 exact at_ret1 rfl rfl ⟨_, rfl, rfl, HM⟩

def cmp_Compare_int64.f (k : Nat) (x0 : Int) (x1 : Int) : Option Int := ((cmp_isNaN_int64.f k x0).bind fun t4151 => ((cmp_isNaN_int64.f k x1).bind fun t4154 => (bif t4151 then (bif t4154 then some 0 else some (-1)) else (bif t4154 then some 1 else (bif (decide (x0 < x1)) then some (-1) else (bif (decide (x1 < x0)) then some 1 else some 0))))))
theorem cmp_Compare_int64.calls {k : Nat} {x0 : Int} {x1 : Int}  {w : World}  {r : Int} (H : cmp_Compare_int64.f k x0 x1 = some r) :
  Calls Try.prog 62 ([.int .i64 x0, .int .i64 x1] : List Value).toArray w (fun e w_ => ∃ v, e = .returned v ∧ v = (.int .i64 r) ∧ Mem w [] w_ []) := by
 have HM := Mem.start w
 refine calls_run (N := 20) Try.func62 rfl rfl rfl rfl ?_
 unfold cmp_Compare_int64.f at H
 refine run_seq ?_
 refine run_region rfl ?_
 refine ox rfl rfl rfl rfl (ex_assign rfl rfl) ?_
 refine ops_nil (at_then (run_seq ?_))
 obtain ⟨t4151, h4152, H⟩ := bind_some H
 refine run_region rfl ?_
 refine ox rfl rfl rfl rfl (ex_move rfl rfl) ?_
 refine od rfl rfl rfl rfl (does_callk rfl callok73 rfl (cmp_isNaN_int64.calls (x0 := x0) h4152)) ?_
 rintro _ w4153 ⟨rfl, hn⟩
 replace HM : Mem w [] w4153 [] := HM.call hn
 refine ox rfl rfl rfl rfl (ex_assign rfl rfl) ?_
 refine ops_nil (at_then (run_seq ?_))
 obtain ⟨t4154, h4155, H⟩ := bind_some H
 refine run_region rfl ?_
 refine ox rfl rfl rfl rfl (ex_move rfl rfl) ?_
 refine od rfl rfl rfl rfl (does_callk rfl callok73 rfl (cmp_isNaN_int64.calls (x0 := x1) h4155)) ?_
 rintro _ w4156 ⟨rfl, hn⟩
 replace HM : Mem w [] w4156 [] := HM.call hn
 refine ox rfl rfl rfl rfl (ex_assign rfl rfl) ?_
 refine ops_nil (at_then (run_seq ?_))
 refine run_seq ?_
 refine run_region rfl ?_
 refine ox rfl rfl rfl rfl (ex_move rfl rfl) ?_
 refine ops_nil (at_then ?_)
 refine run_cond (b := t4151) rfl (fun hb4159 => ?_) (fun hb4159 => ?_)
 ·replace H := cond_t hb4159 H
  refine run_seq ?_
  refine run_seq ?_
  refine run_region rfl ?_
  refine ox rfl rfl rfl rfl (ex_move rfl rfl) ?_
  refine ops_nil (at_then ?_)
  refine run_cond (b := t4154) rfl (fun hb4160 => ?_) (fun hb4160 => ?_)
  ·replace H := cond_t hb4160 H
   refine run_seq ?_
   refine run_region rfl ?_
   refine ox rfl rfl rfl rfl (ex_assign rfl rfl) ?_
   refine ops_nil (at_then ?_)
   refine run_ret ?_
   refine at_then_ret ?_
   refine at_then_ret ?_
   have hR := Option.some.inj H
   subst hR
   exact at_ret1 rfl rfl ⟨_, rfl, rfl, HM⟩
  ·replace H := cond_f hb4160 H
   refine run_skip ?_
   refine at_then ?_
   refine run_seq ?_
   refine run_region rfl ?_
   refine ox rfl rfl rfl rfl (ex_assign rfl rfl) ?_
   refine ops_nil (at_then ?_)
   refine run_ret ?_
   refine at_then_ret ?_
   have hR := Option.some.inj H
   subst hR
   exact at_ret1 rfl rfl ⟨_, rfl, rfl, HM⟩
 ·replace H := cond_f hb4159 H
  refine run_skip ?_
  refine at_then ?_
  refine run_seq ?_
  refine run_seq ?_
  refine run_region rfl ?_
  refine ox rfl rfl rfl rfl (ex_move rfl rfl) ?_
  refine ops_nil (at_then ?_)
  refine run_cond (b := t4154) rfl (fun hb4162 => ?_) (fun hb4162 => ?_)
  ·replace H := cond_t hb4162 H
   refine run_seq ?_
   refine run_region rfl ?_
   refine ox rfl rfl rfl rfl (ex_assign rfl rfl) ?_
   refine ops_nil (at_then ?_)
   refine run_ret ?_
   refine at_then_ret ?_
   have hR := Option.some.inj H
   subst hR
   exact at_ret1 rfl rfl ⟨_, rfl, rfl, HM⟩
  ·replace H := cond_f hb4162 H
   refine run_skip ?_
   refine at_then ?_
   refine run_seq ?_
   refine run_seq ?_
   refine run_region rfl ?_
   refine ox rfl rfl rfl rfl (ex_move rfl rfl) ?_
   refine ox rfl rfl rfl rfl (ex_move rfl rfl) ?_
   refine ox rfl rfl rfl rfl (ex_lss rfl rfl rfl) ?_
   refine ops_nil (at_then ?_)
   refine run_cond (b := (decide (x0 < x1))) rfl (fun hb4164 => ?_) (fun hb4164 => ?_)
   ·replace H := cond_t hb4164 H
    refine run_seq ?_
    refine run_region rfl ?_
    refine ox rfl rfl rfl rfl (ex_assign rfl rfl) ?_
    refine ops_nil (at_then ?_)
    refine run_ret ?_
    refine at_then_ret ?_
    have hR := Option.some.inj H
    subst hR
    exact at_ret1 rfl rfl ⟨_, rfl, rfl, HM⟩
   ·replace H := cond_f hb4164 H
    refine run_skip ?_
    refine at_then ?_
    refine run_seq ?_
    refine run_seq ?_
    refine run_region rfl ?_
    refine ox rfl rfl rfl rfl (ex_move rfl rfl) ?_
    refine ox rfl rfl rfl rfl (ex_move rfl rfl) ?_
    refine ox rfl rfl rfl rfl (ex_gtr rfl rfl rfl) ?_
    refine ops_nil (at_then ?_)
    refine run_cond (b := (decide (x1 < x0))) rfl (fun hb4165 => ?_) (fun hb4165 => ?_)
    ·replace H := cond_t hb4165 H
     refine run_seq ?_
     refine run_region rfl ?_
     refine ox rfl rfl rfl rfl (ex_assign rfl rfl) ?_
     refine ops_nil (at_then ?_)
     refine run_ret ?_
     refine at_then_ret ?_
     have hR := Option.some.inj H
     subst hR
     exact at_ret1 rfl rfl ⟨_, rfl, rfl, HM⟩
    ·replace H := cond_f hb4165 H
     refine run_skip ?_
     refine at_then ?_
     refine run_seq ?_
     refine run_region rfl ?_
     refine ox rfl rfl rfl rfl (ex_assign rfl rfl) ?_
     refine ops_nil (at_then ?_)
     refine run_ret ?_
     have hR := Option.some.inj H
     subst hR
     exact at_ret1 rfl rfl ⟨_, rfl, rfl, HM⟩

def cmp_Or_int.l0 (x0 : List Int) : Nat → Int → Option (Int ⊕ Unit)
 | 0, _ => none
 | k + 1, a4207 => (bif (decide (a4207 < (x0.length : Int))) then (chk (idxOk a4207 x0.length) (bif ((gt x0 a4207) != 0) then some (.inl (gt x0 a4207)) else cmp_Or_int.l0 x0 k (wrap64 (a4207 + 1)))) else some (.inr ()))
theorem cmp_Or_int.l0_z (x0 : List Int) (a4207 : Int) : cmp_Or_int.l0 x0 0 a4207 = none := rfl
theorem cmp_Or_int.l0_s (x0 : List Int) (k : Nat) (a4207 : Int) : cmp_Or_int.l0 x0 (k + 1) a4207 = (bif (decide (a4207 < (x0.length : Int))) then (chk (idxOk a4207 x0.length) (bif ((gt x0 a4207) != 0) then some (.inl (gt x0 a4207)) else cmp_Or_int.l0 x0 k (wrap64 (a4207 + 1)))) else some (.inr ())) := rfl
def cmp_Or_int.f (k : Nat) (x0 : List Int) : Option Int := ((cmp_Or_int.l0 x0 k 0).bind fun o4201 => thn o4201 (fun r => some r) (fun _ => some 0))
theorem cmp_Or_int.calls {k : Nat} {x0 : List Int} {p0 : Value} {w : World} (hp0 : RdS kInt w p0 x0) {r : Int} (H : cmp_Or_int.f k x0 = some r) :
  Calls Try.prog 61 ([p0] : List Value).toArray w (fun e w_ => ∃ v, e = .returned v ∧ v = (.int .i64 r) ∧ Mem w [] w_ []) := by
 have HM := Mem.start w
 refine calls_run (N := 18) Try.func61 rfl rfl rfl rfl ?_
 unfold cmp_Or_int.f at H
 refine run_seq ?_
 refine run_region rfl ?_
 refine ox rfl rfl rfl rfl (ex_assign rfl rfl) ?_
 refine ops_nil (at_then (run_seq ?_))
 refine run_region rfl ?_
 refine ox rfl rfl rfl rfl (ex_assign rfl rfl) ?_
 refine ops_nil (at_then ?_)
 obtain ⟨o4201, ho4202, H⟩ := bind_some H
 refine run_mid (fun ρ_ w_ => Sum.inr () = o4201 ∧ ρ_ = [(3, .int .i64 0)] ∧ Mem w [] w_ []) ?_ ?_
 ·skip
  refine run_seq ?_
  refine run_region rfl ?_
  refine ox rfl rfl rfl rfl (ex_move rfl rfl) ?_
  refine ox rfl rfl rfl rfl (ex_len (d := kInt) (xs := x0) rfl rfl Try.underlying98 hp0) ?_
  refine ox rfl rfl rfl rfl (ex_move rfl rfl) ?_
  refine ops_nil (at_then ?_)
  refine run_block ?_
  refine run_loop (fun k_ ρ_ w_ => ∃ a4207 : Int, cmp_Or_int.l0 x0 k_ a4207 = some o4201 ∧ ρ_ = [(3, .int .i64 0), (6, p0), (7, .int .i64 (x0.length : Int)), (8, .int .i64 a4207)] ∧ Mem w [] w_ []) k (ρ1 := [(3, .int .i64 0), (6, p0), (7, .int .i64 (x0.length : Int)), (8, .int .i64 0)]) ⟨_, ho4202, rfl, HM⟩ (Sub.cons rfl (Sub.cons rfl (Sub.cons rfl (Sub.cons rfl Sub.nil)))) ?_
  clear HM ho4202
  rintro k4212 _ w4213 ⟨a4207, ho4202, rfl, HM⟩
  obtain _ | k4212 := k4212
  ·exact nomatch ((cmp_Or_int.l0_z x0 a4207).symm.trans ho4202)
  replace ho4202 := (cmp_Or_int.l0_s x0 k4212 a4207).symm.trans ho4202
  refine run_seq ?_
  refine run_region rfl ?_
  refine ox rfl rfl rfl rfl (ex_lss rfl rfl rfl) ?_
  refine ops_nil (at_then (run_seq ?_))
  refine run_cond (b := (decide (a4207 < (x0.length : Int)))) rfl (fun hb4214 => ?_) (fun hb4214 => ?_)
  ·replace ho4202 := cond_t hb4214 ho4202
   refine run_skip ?_
   refine at_then ?_
   refine run_seq ?_
   refine run_block ?_
   refine run_seq ?_
   obtain ⟨e4215, ho4202⟩ := chk_some ho4202
   refine run_region rfl ?_
   have hc4216 : CellsAt _ (sb p0) (so p0 + (a4207).toNat * 1) [(.int .i64 (gt x0 a4207))] := rd_plain hp0 e4215
   refine ox rfl rfl rfl rfl (ex_indexAddr (d := kInt) rfl rfl rfl Try.underlying98 tsz3 hp0 (idx_lo e4215) (idx_hi e4215)) ?_
   refine ox rfl rfl rfl rfl (ex_load1 rfl rfl Try.underlying3 rfl ((HM.at_ hc4216) 0 _ rfl)) ?_
   refine ox rfl rfl rfl rfl (ex_assign rfl rfl) ?_
   refine ops_nil (at_then (run_seq ?_))
   refine run_region rfl ?_
   refine ox rfl rfl rfl rfl (ex_move rfl rfl) ?_
   refine ox rfl rfl rfl rfl (ex_move rfl rfl) ?_
   refine ox rfl rfl rfl rfl (ex_neq rfl rfl rfl) ?_
   refine ops_nil (at_then ?_)
   refine run_cond (b := ((gt x0 a4207) != 0)) rfl (fun hb4217 => ?_) (fun hb4217 => ?_)
   ·replace ho4202 := cond_t hb4217 ho4202
    refine run_seq ?_
    refine run_region rfl ?_
    refine ox rfl rfl rfl rfl (ex_move rfl rfl) ?_
    refine ox rfl rfl rfl rfl (ex_assign rfl rfl) ?_
    refine ops_nil (at_then ?_)
    refine run_ret ?_
    refine at_block_ret ?_
    refine at_then_ret ?_
    refine at_then_ret ?_
    refine at_block_ret ?_
    refine at_then_ret ?_
    have hR := Option.some.inj ho4202
    subst hR
    have hT := thn_inl H
    have hR := Option.some.inj hT
    subst hR
    exact at_ret1 rfl rfl ⟨_, rfl, rfl, HM⟩
   ·replace ho4202 := cond_f hb4217 ho4202
    refine run_skip ?_
    refine at_block ?_
    refine at_then ?_
    refine run_region rfl ?_
    refine ox rfl rfl rfl rfl (ex_add rfl rfl rfl) ?_
    refine ox rfl rfl rfl rfl (ex_move rfl rfl) ?_
    refine ops_nil ?_
    exact at_again k4212 (ρ1 := [(3, .int .i64 0), (6, p0), (7, .int .i64 (x0.length : Int)), (8, .int .i64 (wrap64 (a4207 + 1)))]) (Nat.lt_succ_self _) ⟨_, ho4202, rfl, HM⟩ (Sub.cons rfl (Sub.cons rfl (Sub.cons rfl (Sub.cons rfl Sub.nil))))
  ·replace ho4202 := cond_f hb4214 ho4202
   refine run_exit ?_
   refine at_then_exit ?_
   refine at_then_exit ?_
   refine at_block_exit ?_
   exact at_mid (ρ' := [(3, .int .i64 0)]) ⟨(Option.some.inj ho4202), rfl, HM⟩ (Sub.cons rfl Sub.nil)
 ·rintro _ w4218 ⟨rfl, rfl, HM⟩
  replace H := (thn_inr H)
  refine run_seq ?_
  refine run_region rfl ?_
  refine ox rfl rfl rfl rfl (ex_move rfl rfl) ?_
  refine ox rfl rfl rfl rfl (ex_assign rfl rfl) ?_
  refine ops_nil (at_then ?_)
  refine run_ret ?_
  have hR := Option.some.inj H
  subst hR
  exact at_ret1 rfl rfl ⟨_, rfl, rfl, HM⟩

def impl_compareRefs.f (k : Nat) (x0 : Ref) (x1 : Ref) : Option Int := ((cmp_Compare_int64.f k x0.fTx x1.fTx).bind fun t4229 => ((cmp_Compare_int64.f k x0.fAt x1.fAt).bind fun t4231 => ((cmp_Or_int.f k ([t4229, t4231] : List Int)).bind fun t4236 => some t4236)))
theorem impl_compareRefs.calls {k : Nat} {x0 : Ref} {x1 : Ref}  {w : World}  {r : Int} (H : impl_compareRefs.f k x0 x1 = some r) :
  Calls Try.prog 38 ([.agg #[(.int .i64 x0.fTx), (.int .i64 x0.fAt)], .agg #[(.int .i64 x1.fTx), (.int .i64 x1.fAt)]] : List Value).toArray w (fun e w_ => ∃ v, e = .returned v ∧ v = (.int .i64 r) ∧ Mem w [] w_ []) := by
 have HM := Mem.start w
 refine calls_run (N := 17) Try.func38 rfl rfl rfl rfl ?_
 unfold impl_compareRefs.f at H
 refine run_seq ?_
 refine run_region rfl ?_
 refine od rfl rfl rfl rfl (does_box (cs := [.int .i64 x0.fTx, .int .i64 x0.fAt]) rfl rfl rfl HM) ?_
 rintro _ w4227 ⟨b4221, rfl, HM⟩
 refine od rfl rfl rfl rfl (does_box (cs := [.int .i64 x1.fTx, .int .i64 x1.fAt]) rfl rfl rfl HM) ?_
 rintro _ w4228 ⟨b4224, rfl, HM⟩
 refine ox rfl rfl rfl rfl (ex_assign rfl rfl) ?_
 refine ops_nil (at_then (run_seq ?_))
 obtain ⟨t4229, h4230, H⟩ := bind_some H
 obtain ⟨t4231, h4232, H⟩ := bind_some H
 obtain ⟨t4236, h4237, H⟩ := bind_some H
 refine run_drawf (fun w_ => Mem w [] w_ [box b4224 38 [.int .i64 x1.fTx, .int .i64 x1.fAt], box b4221 38 [.int .i64 x0.fTx, .int .i64 x0.fAt]]) [(0, true), (1, true), (2, true), (3, true), (5, true), (6, true), (7, true), (8, true), (4, false), (9, false), (10, false), (11, false), (12, true)] mixed rfl rfl (by kernel_rfl) ?_
 replace HM := HM.grow (fr_drew _)
 have hS := Mem.suf (M := []) HM
 refine dp rfl rfl rfl rfl (ex_fieldAddr (off' := 0) rfl rfl Try.underlying38 rfl tsz2 rfl) hS ?_
 refine drwp_take rfl (guard_none rfl) rfl rfl (fun w_ hS_ => (ex_load1 rfl rfl Try.underlying2 rfl ((hS_.box_at 1 rfl) 0 _ rfl))) hS ?_
 refine dp rfl rfl rfl rfl (ex_fieldAddr (off' := 0) rfl rfl Try.underlying38 rfl tsz2 rfl) hS ?_
 refine drwp_take rfl (guard_none rfl) rfl rfl (fun w_ hS_ => (ex_load1 rfl rfl Try.underlying2 rfl ((hS_.box_at 0 rfl) 0 _ rfl))) hS ?_
 refine dp rfl rfl rfl rfl (ex_fieldAddr (off' := 1) rfl rfl Try.underlying38 rfl tsz2 rfl) hS ?_
 refine drwp_take rfl (guard_none rfl) rfl rfl (fun w_ hS_ => (ex_load1 rfl rfl Try.underlying2 rfl ((hS_.box_at 1 rfl) 1 _ rfl))) hS ?_
 refine dp rfl rfl rfl rfl (ex_fieldAddr (off' := 1) rfl rfl Try.underlying38 rfl tsz2 rfl) hS ?_
 refine drwp_take rfl (guard_none rfl) rfl rfl (fun w_ hS_ => (ex_load1 rfl rfl Try.underlying2 rfl ((hS_.box_at 0 rfl) 1 _ rfl))) hS ?_
 refine drwp_one rfl (guard_none rfl) rfl rfl (does_callk rfl callok62 rfl (cmp_Compare_int64.calls (x0 := x0.fTx) (x1 := x1.fTx) h4230)) ?_
 rintro _ w4238 ⟨rfl, hn⟩
 replace HM : Mem w [] w4238 [box b4224 38 [.int .i64 x1.fTx, .int .i64 x1.fAt], box b4221 38 [.int .i64 x0.fTx, .int .i64 x0.fAt]] := HM.call hn
 have hS := Mem.suf (M := []) HM
 refine ⟨hS, ?_⟩
 refine drwp_one rfl (guard_none rfl) rfl rfl (does_callk rfl callok62 rfl (cmp_Compare_int64.calls (x0 := x0.fAt) (x1 := x1.fAt) h4232)) ?_
 rintro _ w4239 ⟨rfl, hn⟩
 replace HM : Mem w [] w4239 [box b4224 38 [.int .i64 x1.fTx, .int .i64 x1.fAt], box b4221 38 [.int .i64 x0.fTx, .int .i64 x0.fAt]] := HM.call hn
 have hS := Mem.suf (M := []) HM
 refine ⟨hS, ?_⟩
 refine drwp_one rfl (guard_none rfl) rfl rfl (does_lit (e := 3) (cs := [.int .i64 t4229, .int .i64 t4231]) (xs := ([t4229, t4231] : List Int)) kInt rfl rfl (fun _ => by kernel_rfl) rfl rfl (fun _ _ h => by have h' : _ = [] := h; subst h'; exact (Elems.cons (d := kInt) (x := t4229) (f := []) ⟨rfl, rfl⟩ (Elems.cons (d := kInt) (x := t4231) (f := []) ⟨rfl, rfl⟩ .nil))) HM.emp) ?_
 rintro v4233 w4240 HM
 have hS := Mem.suf (M := [own kInt 3 v4233 ([t4229, t4231] : List Int)]) HM
 refine ⟨hS, ?_⟩
 refine drwp_one rfl (guard_none rfl) rfl rfl (does_callk rfl callok61 rfl (cmp_Or_int.calls (x0 := ([t4229, t4231] : List Int)) (HM.own_rd 0 rfl) h4237)) ?_
 rintro _ w4241 ⟨rfl, hn⟩
 replace HM : Mem w [] w4241 [own kInt 3 v4233 ([t4229, t4231] : List Int), box b4224 38 [.int .i64 x1.fTx, .int .i64 x1.fAt], box b4221 38 [.int .i64 x0.fTx, .int .i64 x0.fAt]] := HM.call hn
 have hS := Mem.suf (M := [own kInt 3 v4233 ([t4229, t4231] : List Int)]) HM
 refine ⟨hS, ?_⟩
 refine dp rfl rfl rfl rfl (ex_assign rfl rfl) hS ?_
 refine drwp_done ?_
 refine at_then ?_
 refine run_ret ?_
 replace HM := (HM.front 0 rfl rfl).drop
 replace HM := (HM.front 0 rfl rfl).drop
 replace HM := (HM.front 0 rfl rfl).drop
 have hR := Option.some.inj H
 subst hR
 exact at_ret1 rfl rfl ⟨_, rfl, rfl, HM⟩

def impl_CoinsFault.l0 (x0 : List Coin) : Nat → Int → Option (Int ⊕ Unit)
 | 0, _ => none
 | k + 1, a4463 => (bif (decide (a4463 < (x0.length : Int))) then (chk (idxOk a4463 x0.length) ((impl_isRef.f k ((gt x0 a4463).fRef)).bind fun t4518 => ((bif (!(!t4518)) then impl_isHeight.f k ((gt x0 a4463).fHeight) else some default).bind fun t4520 => ((bif (!((!t4518) || (!t4520))) then impl_within.f k ((gt x0 a4463).fOut.fValue) 1 1000000 else some default).bind fun t4522 => (bif (((!t4518) || (!t4520)) || (!t4522)) then some (.inl 3) else ((impl_RuleFault.f k ((gt x0 a4463).fOut.fRule)).bind fun t4537 => (bif (t4537 != 0) then some (.inl t4537) else (chk (!(decide (0 < a4463)) || (idxOk (wrap64 (a4463 - 1)) x0.length)) ((bif (decide (0 < a4463)) then impl_compareRefs.f k ((gt x0 (wrap64 (a4463 - 1))).fRef) ((gt x0 a4463).fRef) else some default).bind fun t4545 => (bif ((decide (0 < a4463)) && (decide (0 ≤ t4545))) then some (.inl 1) else impl_CoinsFault.l0 x0 k (wrap64 (a4463 + 1)))))))))))) else some (.inr ()))
theorem impl_CoinsFault.l0_z (x0 : List Coin) (a4463 : Int) : impl_CoinsFault.l0 x0 0 a4463 = none := rfl
theorem impl_CoinsFault.l0_s (x0 : List Coin) (k : Nat) (a4463 : Int) : impl_CoinsFault.l0 x0 (k + 1) a4463 = (bif (decide (a4463 < (x0.length : Int))) then (chk (idxOk a4463 x0.length) ((impl_isRef.f k ((gt x0 a4463).fRef)).bind fun t4518 => ((bif (!(!t4518)) then impl_isHeight.f k ((gt x0 a4463).fHeight) else some default).bind fun t4520 => ((bif (!((!t4518) || (!t4520))) then impl_within.f k ((gt x0 a4463).fOut.fValue) 1 1000000 else some default).bind fun t4522 => (bif (((!t4518) || (!t4520)) || (!t4522)) then some (.inl 3) else ((impl_RuleFault.f k ((gt x0 a4463).fOut.fRule)).bind fun t4537 => (bif (t4537 != 0) then some (.inl t4537) else (chk (!(decide (0 < a4463)) || (idxOk (wrap64 (a4463 - 1)) x0.length)) ((bif (decide (0 < a4463)) then impl_compareRefs.f k ((gt x0 (wrap64 (a4463 - 1))).fRef) ((gt x0 a4463).fRef) else some default).bind fun t4545 => (bif ((decide (0 < a4463)) && (decide (0 ≤ t4545))) then some (.inl 1) else impl_CoinsFault.l0 x0 k (wrap64 (a4463 + 1)))))))))))) else some (.inr ())) := rfl
def impl_CoinsFault.f (k : Nat) (x0 : List Coin) : Option Int := (bif (decide (40 < (x0.length : Int))) then some 2 else ((impl_CoinsFault.l0 x0 k 0).bind fun o4426 => thn o4426 (fun r => some r) (fun _ => some 0)))
theorem impl_CoinsFault.calls {k : Nat} {x0 : List Coin} {p0 : Value} {w : World} (hp0 : RdS kCoin w p0 x0) {r : Int} (H : impl_CoinsFault.f k x0 = some r) :
  Calls Try.prog 11 ([p0] : List Value).toArray w (fun e w_ => ∃ v, e = .returned v ∧ v = (.int .i64 r) ∧ Mem w [] w_ []) := by
 have HM := Mem.start w
 refine calls_run (N := 55) Try.func11 rfl rfl rfl rfl ?_
 unfold impl_CoinsFault.f at H
 refine run_seq ?_
 refine run_region rfl ?_
 refine ox rfl rfl rfl rfl (ex_assign rfl rfl) ?_
 refine ops_nil (at_then (run_seq ?_))
 refine run_seq ?_
 refine run_region rfl ?_
 refine ox rfl rfl rfl rfl (ex_move rfl rfl) ?_
 refine ox rfl rfl rfl rfl (ex_len (d := kCoin) (xs := x0) rfl rfl Try.underlying24 hp0) ?_
 refine ox rfl rfl rfl rfl (ex_gtr rfl rfl rfl) ?_
 refine ops_nil (at_then ?_)
 refine run_cond (b := (decide (40 < (x0.length : Int)))) rfl (fun hb4319 => ?_) (fun hb4319 => ?_)
 ·replace H := cond_t hb4319 H
  refine run_seq ?_
  refine run_region rfl ?_
  refine ox rfl rfl rfl rfl (ex_assign rfl rfl) ?_
  refine ops_nil (at_then ?_)
  refine run_ret ?_
  refine at_then_ret ?_
  have hR := Option.some.inj H
  subst hR
  exact at_ret1 rfl rfl ⟨_, rfl, rfl, HM⟩
 ·replace H := cond_f hb4319 H
  refine run_skip ?_
  refine at_then ?_
  obtain ⟨o4426, ho4427, H⟩ := bind_some H
  refine run_mid (fun ρ_ w_ => Sum.inr () = o4426 ∧ ρ_ = [] ∧ Mem w [] w_ []) ?_ ?_
  ·skip
   refine run_seq ?_
   refine run_region rfl ?_
   refine ox rfl rfl rfl rfl (ex_move rfl rfl) ?_
   refine ox rfl rfl rfl rfl (ex_len (d := kCoin) (xs := x0) rfl rfl Try.underlying24 hp0) ?_
   refine ox rfl rfl rfl rfl (ex_move rfl rfl) ?_
   refine ops_nil (at_then ?_)
   refine run_block ?_
   refine run_loop (fun k_ ρ_ w_ => ∃ a4463 : Int, impl_CoinsFault.l0 x0 k_ a4463 = some o4426 ∧ ρ_ = [(0, p0), (9, p0), (10, .int .i64 (x0.length : Int)), (11, .int .i64 a4463)] ∧ Mem w [] w_ []) k (ρ1 := [(0, p0), (9, p0), (10, .int .i64 (x0.length : Int)), (11, .int .i64 0)]) ⟨_, ho4427, rfl, HM⟩ (Sub.cons rfl (Sub.cons rfl (Sub.cons rfl (Sub.cons rfl Sub.nil)))) ?_
   clear HM ho4427
   rintro k4499 _ w4500 ⟨a4463, ho4427, rfl, HM⟩
   obtain _ | k4499 := k4499
   ·exact nomatch ((impl_CoinsFault.l0_z x0 a4463).symm.trans ho4427)
   replace ho4427 := (impl_CoinsFault.l0_s x0 k4499 a4463).symm.trans ho4427
   refine run_seq ?_
   refine run_region rfl ?_
   refine ox rfl rfl rfl rfl (ex_lss rfl rfl rfl) ?_
   refine ops_nil (at_then (run_seq ?_))
   refine run_cond (b := (decide (a4463 < (x0.length : Int)))) rfl (fun hb4501 => ?_) (fun hb4501 => ?_)
   ·replace ho4427 := cond_t hb4501 ho4427
    refine run_skip ?_
    refine at_then ?_
    refine run_seq ?_
    refine run_block ?_
    refine run_seq ?_
    obtain ⟨e4502, ho4427⟩ := chk_some ho4427
    refine run_region rfl ?_
    refine ox rfl rfl rfl rfl (ex_move rfl rfl) ?_
    obtain ⟨kv4504, hc4503, hk4505⟩ : ∃ u, CellsAt _ (sb p0) (so p0 + (a4463).toNat * 8) [(.int .i64 ((gt x0 a4463).fRef.fTx)), (.int .i64 ((gt x0 a4463).fRef.fAt)), (.int .i64 ((gt x0 a4463).fOut.fValue)), u, (.int .i64 ((gt x0 a4463).fOut.fRule.fNeed)), (.int .i64 ((gt x0 a4463).fOut.fRule.fAfter)), (.int .i64 ((gt x0 a4463).fHeight)), (.bool ((gt x0 a4463).fMined))] ∧ RdS kInt _ u ((gt x0 a4463).fOut.fRule.fKeys) := rd_with1 hp0 e4502
    refine ox rfl rfl rfl rfl (ex_indexAddr (d := kCoin) rfl rfl rfl Try.underlying24 tsz41 hp0 (idx_lo e4502) (idx_hi e4502)) ?_
    refine ox rfl rfl rfl rfl (ex_loadN (cs := [(.int .i64 ((gt x0 a4463).fRef.fTx)), (.int .i64 ((gt x0 a4463).fRef.fAt)), (.int .i64 ((gt x0 a4463).fOut.fValue)), kv4504, (.int .i64 ((gt x0 a4463).fOut.fRule.fNeed)), (.int .i64 ((gt x0 a4463).fOut.fRule.fAfter)), (.int .i64 ((gt x0 a4463).fHeight)), (.bool ((gt x0 a4463).fMined))]) rfl rfl Try.underlying41 rfl tsz41 rfl ((HM.at_ hc4503).sub 0 8 rfl)) ?_
    refine od rfl rfl rfl rfl (does_alloc (cs := [.int .i64 0, .int .i64 0, .int .i64 0, .slice none 0 0, .int .i64 0, .int .i64 0, .int .i64 0, .bool false]) rfl tz41 rfl HM) ?_
    rintro _ w4509 ⟨b4506, rfl, HM⟩
    refine ox rfl rfl rfl rfl (ex_assign rfl rfl) ?_
    refine odS rfl rfl rfl (does_store (vs := [.int .i64 ((gt x0 a4463).fRef.fTx), .int .i64 ((gt x0 a4463).fRef.fAt), .int .i64 ((gt x0 a4463).fOut.fValue), kv4504, .int .i64 ((gt x0 a4463).fOut.fRule.fNeed), .int .i64 ((gt x0 a4463).fOut.fRule.fAfter), .int .i64 ((gt x0 a4463).fHeight), .bool ((gt x0 a4463).fMined)]) (cs' := [.int .i64 ((gt x0 a4463).fRef.fTx), .int .i64 ((gt x0 a4463).fRef.fAt), .int .i64 ((gt x0 a4463).fOut.fValue), kv4504, .int .i64 ((gt x0 a4463).fOut.fRule.fNeed), .int .i64 ((gt x0 a4463).fOut.fRule.fAfter), .int .i64 ((gt x0 a4463).fHeight), .bool ((gt x0 a4463).fMined)]) rfl rfl rfl rfl tsz41 (Ones.int (Ones.int (Ones.int (Ones.rd hk4505 (Ones.int (Ones.int (Ones.int (Ones.bool Ones.nil)))))))) rfl rfl HM) ?_
    rintro w4510 HM
    refine ops_nil (at_then (run_seq ?_))
    refine run_seq ?_
    obtain ⟨t4518, h4519, ho4427⟩ := bind_some ho4427
    obtain ⟨t4520, h4521, ho4427⟩ := bind_some ho4427
    obtain ⟨t4522, h4523, ho4427⟩ := bind_some ho4427
    refine run_meet (fun ρ_ w_ => ρ_ = [(0, p0), (9, p0), (10, .int .i64 (x0.length : Int)), (11, .int .i64 a4463), (4, .pointer (some ⟨b4506, 0, none⟩)), (3, .int .i64 a4463), (32, .bool (((!t4518) || (!t4520)) || (!t4522)))] ∧ Mem w [] w_ [box b4506 41 [.int .i64 ((gt x0 a4463).fRef.fTx), .int .i64 ((gt x0 a4463).fRef.fAt), .int .i64 ((gt x0 a4463).fOut.fValue), kv4504, .int .i64 ((gt x0 a4463).fOut.fRule.fNeed), .int .i64 ((gt x0 a4463).fOut.fRule.fAfter), .int .i64 ((gt x0 a4463).fHeight), .bool ((gt x0 a4463).fMined)]]) ?_ ?_
    ·skip
     refine run_region rfl ?_
     refine ox rfl rfl rfl rfl (ex_fieldAddr (off' := 0) rfl rfl Try.underlying41 rfl tsz38 rfl) ?_
     refine ox rfl rfl rfl rfl (ex_loadN (cs := [(.int .i64 ((gt x0 a4463).fRef.fTx)), (.int .i64 ((gt x0 a4463).fRef.fAt))]) rfl rfl Try.underlying38 rfl tsz38 rfl ((HM.box_at 0 rfl).sub 0 2 rfl)) ?_
     refine od rfl rfl rfl rfl (does_callk rfl callok34 rfl (impl_isRef.calls (x0 := (gt x0 a4463).fRef) h4519)) ?_
     rintro _ w4524 ⟨rfl, hn⟩
     replace HM : Mem w [] w4524 [box b4506 41 [.int .i64 ((gt x0 a4463).fRef.fTx), .int .i64 ((gt x0 a4463).fRef.fAt), .int .i64 ((gt x0 a4463).fOut.fValue), kv4504, .int .i64 ((gt x0 a4463).fOut.fRule.fNeed), .int .i64 ((gt x0 a4463).fOut.fRule.fAfter), .int .i64 ((gt x0 a4463).fHeight), .bool ((gt x0 a4463).fMined)]] := HM.call hn
     refine ox rfl rfl rfl rfl (ex_not rfl rfl) ?_
     refine ox rfl rfl rfl rfl (ex_move rfl rfl) ?_
     refine bool_cases (!t4518) (fun hg4525 => ?_) (fun hg4525 => ?_)
     ·skip
      refine ops_off rfl (guard_off rfl rfl rfl hg4525) rfl rfl ?_
      refine ops_off rfl (guard_off rfl rfl rfl hg4525) rfl rfl ?_
      refine ops_off rfl (guard_off rfl rfl rfl hg4525) rfl rfl ?_
      refine ops_off rfl (guard_off rfl rfl rfl hg4525) rfl rfl ?_
      have hg4526 : ((!t4518) || (!t4520)) = true := by simp only [hg4525, Bool.and_true, Bool.true_and, Bool.and_false, Bool.false_and, Bool.or_true, Bool.true_or, Bool.or_false, Bool.false_or, Bool.not_true, Bool.not_false, Bool.not_not]
      refine ops_ex (v := .bool ((!t4518) || (!t4520))) rfl (guard_none rfl) rfl rfl (ex_por_t rfl rfl hg4525) ?_
      refine ox rfl rfl rfl rfl (ex_move rfl rfl) ?_
      refine ops_off rfl (guard_off rfl rfl rfl hg4526) rfl rfl ?_
      refine ops_off rfl (guard_off rfl rfl rfl hg4526) rfl rfl ?_
      refine ops_off rfl (guard_off rfl rfl rfl hg4526) rfl rfl ?_
      refine ops_off rfl (guard_off rfl rfl rfl hg4526) rfl rfl ?_
      refine ops_off rfl (guard_off rfl rfl rfl hg4526) rfl rfl ?_
      have hg4527 : (((!t4518) || (!t4520)) || (!t4522)) = true := by simp only [hg4526, Bool.and_true, Bool.true_and, Bool.and_false, Bool.false_and, Bool.or_true, Bool.true_or, Bool.or_false, Bool.false_or, Bool.not_true, Bool.not_false, Bool.not_not]
      refine ops_ex (v := .bool (((!t4518) || (!t4520)) || (!t4522))) rfl (guard_none rfl) rfl rfl (ex_por_t rfl rfl hg4526) ?_
      refine ops_nil ?_
      exact at_meet [(0, p0), (9, p0), (10, .int .i64 (x0.length : Int)), (11, .int .i64 a4463), (4, .pointer (some ⟨b4506, 0, none⟩)), (3, .int .i64 a4463), (32, .bool (((!t4518) || (!t4520)) || (!t4522)))] ⟨rfl, HM⟩ (Sub.cons rfl (Sub.cons rfl (Sub.cons rfl (Sub.cons rfl (Sub.cons rfl (Sub.cons rfl (Sub.cons rfl Sub.nil)))))))
     ·skip
      refine ops_ex rfl (guard_on rfl rfl rfl hg4525) rfl rfl (ex_fieldAddr (off' := 6) rfl rfl Try.underlying41 rfl tsz2 rfl) ?_
      refine ops_ex rfl (guard_on rfl rfl rfl hg4525) rfl rfl (ex_load1 rfl rfl Try.underlying2 rfl ((HM.box_at 0 rfl) 6 _ rfl)) ?_
      refine ops_does rfl (guard_on rfl rfl rfl hg4525) rfl rfl (does_callk rfl callok35 rfl (impl_isHeight.calls (x0 := (gt x0 a4463).fHeight) (cond_t (not_mk hg4525) h4521))) ?_
      rintro _ w4528 ⟨rfl, hn⟩
      replace HM : Mem w [] w4528 [box b4506 41 [.int .i64 ((gt x0 a4463).fRef.fTx), .int .i64 ((gt x0 a4463).fRef.fAt), .int .i64 ((gt x0 a4463).fOut.fValue), kv4504, .int .i64 ((gt x0 a4463).fOut.fRule.fNeed), .int .i64 ((gt x0 a4463).fOut.fRule.fAfter), .int .i64 ((gt x0 a4463).fHeight), .bool ((gt x0 a4463).fMined)]] := HM.call hn
      refine ops_ex rfl (guard_on rfl rfl rfl hg4525) rfl rfl (ex_not rfl rfl) ?_
      refine ops_ex (v := .bool ((!t4518) || (!t4520))) rfl (guard_none rfl) rfl rfl (ex_por_f rfl rfl hg4525 rfl) ?_
      refine ox rfl rfl rfl rfl (ex_move rfl rfl) ?_
      refine bool_cases ((!t4518) || (!t4520)) (fun hg4529 => ?_) (fun hg4529 => ?_)
      ·skip
       refine ops_off rfl (guard_off rfl rfl rfl hg4529) rfl rfl ?_
       refine ops_off rfl (guard_off rfl rfl rfl hg4529) rfl rfl ?_
       refine ops_off rfl (guard_off rfl rfl rfl hg4529) rfl rfl ?_
       refine ops_off rfl (guard_off rfl rfl rfl hg4529) rfl rfl ?_
       refine ops_off rfl (guard_off rfl rfl rfl hg4529) rfl rfl ?_
       have hg4530 : (((!t4518) || (!t4520)) || (!t4522)) = true := by simp only [hg4529, Bool.and_true, Bool.true_and, Bool.and_false, Bool.false_and, Bool.or_true, Bool.true_or, Bool.or_false, Bool.false_or, Bool.not_true, Bool.not_false, Bool.not_not]
       refine ops_ex (v := .bool (((!t4518) || (!t4520)) || (!t4522))) rfl (guard_none rfl) rfl rfl (ex_por_t rfl rfl hg4529) ?_
       refine ops_nil ?_
       exact at_meet [(0, p0), (9, p0), (10, .int .i64 (x0.length : Int)), (11, .int .i64 a4463), (4, .pointer (some ⟨b4506, 0, none⟩)), (3, .int .i64 a4463), (32, .bool (((!t4518) || (!t4520)) || (!t4522)))] ⟨rfl, HM⟩ (Sub.cons rfl (Sub.cons rfl (Sub.cons rfl (Sub.cons rfl (Sub.cons rfl (Sub.cons rfl (Sub.cons rfl Sub.nil)))))))
      ·skip
       refine ops_ex rfl (guard_on rfl rfl rfl hg4529) rfl rfl (ex_fieldAddr (off' := 2) rfl rfl Try.underlying41 rfl tsz36 rfl) ?_
       refine ops_ex rfl (guard_on rfl rfl rfl hg4529) rfl rfl (ex_fieldAddr (off' := 2) rfl rfl Try.underlying36 rfl tsz2 rfl) ?_
       refine ops_ex rfl (guard_on rfl rfl rfl hg4529) rfl rfl (ex_load1 rfl rfl Try.underlying2 rfl ((HM.box_at 0 rfl) 2 _ rfl)) ?_
       refine ops_does rfl (guard_on rfl rfl rfl hg4529) rfl rfl (does_callk rfl callok36 rfl (impl_within.calls (x0 := (gt x0 a4463).fOut.fValue) (x1 := 1) (x2 := 1000000) (cond_t (not_mk hg4529) h4523))) ?_
       rintro _ w4531 ⟨rfl, hn⟩
       replace HM : Mem w [] w4531 [box b4506 41 [.int .i64 ((gt x0 a4463).fRef.fTx), .int .i64 ((gt x0 a4463).fRef.fAt), .int .i64 ((gt x0 a4463).fOut.fValue), kv4504, .int .i64 ((gt x0 a4463).fOut.fRule.fNeed), .int .i64 ((gt x0 a4463).fOut.fRule.fAfter), .int .i64 ((gt x0 a4463).fHeight), .bool ((gt x0 a4463).fMined)]] := HM.call hn
       refine ops_ex rfl (guard_on rfl rfl rfl hg4529) rfl rfl (ex_not rfl rfl) ?_
       refine ops_ex (v := .bool (((!t4518) || (!t4520)) || (!t4522))) rfl (guard_none rfl) rfl rfl (ex_por_f rfl rfl hg4529 rfl) ?_
       refine ops_nil ?_
       exact at_meet [(0, p0), (9, p0), (10, .int .i64 (x0.length : Int)), (11, .int .i64 a4463), (4, .pointer (some ⟨b4506, 0, none⟩)), (3, .int .i64 a4463), (32, .bool (((!t4518) || (!t4520)) || (!t4522)))] ⟨rfl, HM⟩ (Sub.cons rfl (Sub.cons rfl (Sub.cons rfl (Sub.cons rfl (Sub.cons rfl (Sub.cons rfl (Sub.cons rfl Sub.nil)))))))
    ·rintro _ w4532 ⟨rfl, HM⟩
     refine at_then ?_
     refine run_cond (b := (((!t4518) || (!t4520)) || (!t4522))) rfl (fun hb4533 => ?_) (fun hb4533 => ?_)
     ·replace ho4427 := cond_t hb4533 ho4427
      refine run_seq ?_
      refine run_region rfl ?_
      refine ox rfl rfl rfl rfl (ex_assign rfl rfl) ?_
      refine ops_nil (at_then ?_)
      refine run_ret ?_
      refine at_then_ret ?_
      refine at_block_ret ?_
      refine at_then_ret ?_
      refine at_then_ret ?_
      refine at_block_ret ?_
      refine at_then_ret ?_
      replace HM := (HM.front 0 rfl rfl).drop
      have hR := Option.some.inj ho4427
      subst hR
      have hT := thn_inl H
      have hR := Option.some.inj hT
      subst hR
      exact at_ret1 rfl rfl ⟨_, rfl, rfl, HM⟩
     ·replace ho4427 := cond_f hb4533 ho4427
      refine run_skip ?_
      refine at_then ?_
      refine run_seq ?_
      refine run_seq ?_
      obtain ⟨t4537, h4538, ho4427⟩ := bind_some ho4427
      refine run_region rfl ?_
      refine ox rfl rfl rfl rfl (ex_fieldAddr (off' := 2) rfl rfl Try.underlying41 rfl tsz36 rfl) ?_
      refine ox rfl rfl rfl rfl (ex_fieldAddr (off' := 3) rfl rfl Try.underlying36 rfl tsz34 rfl) ?_
      refine ox rfl rfl rfl rfl (ex_loadN (cs := [kv4504, (.int .i64 ((gt x0 a4463).fOut.fRule.fNeed)), (.int .i64 ((gt x0 a4463).fOut.fRule.fAfter))]) rfl rfl Try.underlying34 rfl tsz34 rfl ((HM.box_at 0 rfl).sub 3 3 rfl)) ?_
      refine od rfl rfl rfl rfl (does_callk rfl callok37 rfl (impl_RuleFault.calls (x0 := (gt x0 a4463).fOut.fRule) (HM.rd hk4505) h4538)) ?_
      rintro _ w4539 ⟨rfl, hn⟩
      replace HM : Mem w [] w4539 [box b4506 41 [.int .i64 ((gt x0 a4463).fRef.fTx), .int .i64 ((gt x0 a4463).fRef.fAt), .int .i64 ((gt x0 a4463).fOut.fValue), kv4504, .int .i64 ((gt x0 a4463).fOut.fRule.fNeed), .int .i64 ((gt x0 a4463).fOut.fRule.fAfter), .int .i64 ((gt x0 a4463).fHeight), .bool ((gt x0 a4463).fMined)]] := HM.call hn
      refine ox rfl rfl rfl rfl (ex_assign rfl rfl) ?_
      refine ops_nil (at_then (run_seq ?_))
      refine run_region rfl ?_
      refine ox rfl rfl rfl rfl (ex_move rfl rfl) ?_
      refine ox rfl rfl rfl rfl (ex_neq rfl rfl rfl) ?_
      refine ops_nil (at_then ?_)
      refine run_cond (b := (t4537 != 0)) rfl (fun hb4540 => ?_) (fun hb4540 => ?_)
      ·replace ho4427 := cond_t hb4540 ho4427
       refine run_seq ?_
       refine run_region rfl ?_
       refine ox rfl rfl rfl rfl (ex_move rfl rfl) ?_
       refine ox rfl rfl rfl rfl (ex_assign rfl rfl) ?_
       refine ops_nil (at_then ?_)
       refine run_ret ?_
       refine at_then_ret ?_
       refine at_block_ret ?_
       refine at_then_ret ?_
       refine at_then_ret ?_
       refine at_block_ret ?_
       refine at_then_ret ?_
       replace HM := (HM.front 0 rfl rfl).drop
       have hR := Option.some.inj ho4427
       subst hR
       have hT := thn_inl H
       have hR := Option.some.inj hT
       subst hR
       exact at_ret1 rfl rfl ⟨_, rfl, rfl, HM⟩
      ·replace ho4427 := cond_f hb4540 ho4427
       refine run_skip ?_
       refine at_then ?_
       refine run_seq ?_
       obtain ⟨e4541, ho4427⟩ := chk_some ho4427
       obtain ⟨t4545, h4546, ho4427⟩ := bind_some ho4427
       refine run_meet (fun ρ_ w_ => ρ_ = [(0, p0), (9, p0), (10, .int .i64 (x0.length : Int)), (11, .int .i64 a4463), (53, .bool ((decide (0 < a4463)) && (decide (0 ≤ t4545))))] ∧ Mem w [] w_ []) ?_ ?_
       ·skip
        refine run_drawf (fun w_ => Mem w [] w_ [box b4506 41 [.int .i64 ((gt x0 a4463).fRef.fTx), .int .i64 ((gt x0 a4463).fRef.fAt), .int .i64 ((gt x0 a4463).fOut.fValue), kv4504, .int .i64 ((gt x0 a4463).fOut.fRule.fNeed), .int .i64 ((gt x0 a4463).fOut.fRule.fAfter), .int .i64 ((gt x0 a4463).fHeight), .bool ((gt x0 a4463).fMined)]]) [(0, true), (1, true), (2, true), (3, true), (4, true), (5, true), (6, true), (7, true), (8, true), (9, true), (10, true), (11, false), (12, true), (13, true)] mixed rfl rfl (by kernel_rfl) ?_
        replace HM := HM.grow (fr_drew _)
        have hS := Mem.suf (M := []) HM
        refine dp rfl rfl rfl rfl (ex_move rfl rfl) hS ?_
        refine dp rfl rfl rfl rfl (ex_gtr rfl rfl rfl) hS ?_
        refine dp rfl rfl rfl rfl (ex_move rfl rfl) hS ?_
        refine bool_cases (decide (0 < a4463)) (fun hg4547 => ?_) (fun hg4547 => ?_)
        ·skip
         refine drwp_take rfl (guard_on rfl rfl rfl hg4547) rfl rfl (fun w_ hS_ => (ex_move rfl rfl)) hS ?_
         refine drwp_take rfl (guard_on rfl rfl rfl hg4547) rfl rfl (fun w_ hS_ => (ex_move rfl rfl)) hS ?_
         refine drwp_take rfl (guard_on rfl rfl rfl hg4547) rfl rfl (fun w_ hS_ => (ex_sub rfl rfl rfl)) hS ?_
         obtain ⟨kv4543, hc4542, hk4544⟩ : ∃ u, CellsAt _ (sb p0) (so p0 + (wrap64 (a4463 - 1)).toNat * 8) [(.int .i64 ((gt x0 (wrap64 (a4463 - 1))).fRef.fTx)), (.int .i64 ((gt x0 (wrap64 (a4463 - 1))).fRef.fAt)), (.int .i64 ((gt x0 (wrap64 (a4463 - 1))).fOut.fValue)), u, (.int .i64 ((gt x0 (wrap64 (a4463 - 1))).fOut.fRule.fNeed)), (.int .i64 ((gt x0 (wrap64 (a4463 - 1))).fOut.fRule.fAfter)), (.int .i64 ((gt x0 (wrap64 (a4463 - 1))).fHeight)), (.bool ((gt x0 (wrap64 (a4463 - 1))).fMined))] ∧ RdS kInt _ u ((gt x0 (wrap64 (a4463 - 1))).fOut.fRule.fKeys) := rd_with1 hp0 (or_t e4541 hg4547)
         refine drwp_take rfl (guard_on rfl rfl rfl hg4547) rfl rfl (fun w_ hS_ => (ex_indexAddr (d := kCoin) rfl rfl rfl Try.underlying24 tsz41 hp0 (idx_lo (or_t e4541 hg4547)) (idx_hi (or_t e4541 hg4547)))) hS ?_
         refine drwp_take rfl (guard_on rfl rfl rfl hg4547) rfl rfl (fun w_ hS_ => (ex_fieldAddr (off' := so p0 + (wrap64 (a4463 - 1)).toNat * 8) rfl rfl Try.underlying41 rfl tsz38 rfl)) hS ?_
         refine drwp_take rfl (guard_on rfl rfl rfl hg4547) rfl rfl (fun w_ hS_ => (ex_loadN (cs := [(.int .i64 ((gt x0 (wrap64 (a4463 - 1))).fRef.fTx)), (.int .i64 ((gt x0 (wrap64 (a4463 - 1))).fRef.fAt))]) rfl rfl Try.underlying38 rfl tsz38 rfl ((hS_.at_ hc4542).sub 0 2 rfl))) hS ?_
         refine drwp_take rfl (guard_on rfl rfl rfl hg4547) rfl rfl (fun w_ hS_ => (ex_fieldAddr (off' := 0) rfl rfl Try.underlying41 rfl tsz38 rfl)) hS ?_
         refine drwp_take rfl (guard_on rfl rfl rfl hg4547) rfl rfl (fun w_ hS_ => (ex_loadN (cs := [(.int .i64 ((gt x0 a4463).fRef.fTx)), (.int .i64 ((gt x0 a4463).fRef.fAt))]) rfl rfl Try.underlying38 rfl tsz38 rfl ((hS_.box_at 0 rfl).sub 0 2 rfl))) hS ?_
         refine drwp_one rfl (guard_on rfl rfl rfl hg4547) rfl rfl (does_callk rfl callok38 rfl (impl_compareRefs.calls (x0 := (gt x0 (wrap64 (a4463 - 1))).fRef) (x1 := (gt x0 a4463).fRef) (cond_t hg4547 h4546))) ?_
         rintro _ w4548 ⟨rfl, hn⟩
         replace HM : Mem w [] w4548 [box b4506 41 [.int .i64 ((gt x0 a4463).fRef.fTx), .int .i64 ((gt x0 a4463).fRef.fAt), .int .i64 ((gt x0 a4463).fOut.fValue), kv4504, .int .i64 ((gt x0 a4463).fOut.fRule.fNeed), .int .i64 ((gt x0 a4463).fOut.fRule.fAfter), .int .i64 ((gt x0 a4463).fHeight), .bool ((gt x0 a4463).fMined)]] := HM.call hn
         have hS := Mem.suf (M := []) HM
         refine ⟨hS, ?_⟩
         refine drwp_take rfl (guard_on rfl rfl rfl hg4547) rfl rfl (fun w_ hS_ => (ex_geq rfl rfl rfl)) hS ?_
         refine drwp_take (v := .bool ((decide (0 < a4463)) && (decide (0 ≤ t4545)))) rfl (guard_none rfl) rfl rfl (fun w_ hS_ => (ex_pand_t rfl rfl hg4547 rfl)) hS ?_
         refine drwp_done ?_
         replace HM := (HM.front 0 rfl rfl).drop
         exact at_meet [(0, p0), (9, p0), (10, .int .i64 (x0.length : Int)), (11, .int .i64 a4463), (53, .bool ((decide (0 < a4463)) && (decide (0 ≤ t4545))))] ⟨rfl, HM⟩ (Sub.cons rfl (Sub.cons rfl (Sub.cons rfl (Sub.cons rfl (Sub.cons rfl Sub.nil)))))
        ·skip
         refine drwp_off rfl (guard_off rfl rfl rfl hg4547) rfl rfl hS ?_
         refine drwp_off rfl (guard_off rfl rfl rfl hg4547) rfl rfl hS ?_
         refine drwp_off rfl (guard_off rfl rfl rfl hg4547) rfl rfl hS ?_
         refine drwp_off rfl (guard_off rfl rfl rfl hg4547) rfl rfl hS ?_
         refine drwp_off rfl (guard_off rfl rfl rfl hg4547) rfl rfl hS ?_
         refine drwp_off rfl (guard_off rfl rfl rfl hg4547) rfl rfl hS ?_
         refine drwp_off rfl (guard_off rfl rfl rfl hg4547) rfl rfl hS ?_
         refine drwp_off rfl (guard_off rfl rfl rfl hg4547) rfl rfl hS ?_
         refine drwp_off1 rfl (guard_off rfl rfl rfl hg4547) rfl rfl ⟨hS, ?_⟩
         refine drwp_off rfl (guard_off rfl rfl rfl hg4547) rfl rfl hS ?_
         have hg4549 : ((decide (0 < a4463)) && (decide (0 ≤ t4545))) = false := by simp only [hg4547, Bool.and_true, Bool.true_and, Bool.and_false, Bool.false_and, Bool.or_true, Bool.true_or, Bool.or_false, Bool.false_or, Bool.not_true, Bool.not_false, Bool.not_not]
         refine drwp_take (v := .bool ((decide (0 < a4463)) && (decide (0 ≤ t4545)))) rfl (guard_none rfl) rfl rfl (fun w_ hS_ => (ex_pand_f rfl rfl hg4547)) hS ?_
         refine drwp_done ?_
         replace HM := (HM.front 0 rfl rfl).drop
         exact at_meet [(0, p0), (9, p0), (10, .int .i64 (x0.length : Int)), (11, .int .i64 a4463), (53, .bool ((decide (0 < a4463)) && (decide (0 ≤ t4545))))] ⟨rfl, HM⟩ (Sub.cons rfl (Sub.cons rfl (Sub.cons rfl (Sub.cons rfl (Sub.cons rfl Sub.nil)))))
       ·rintro _ w4550 ⟨rfl, HM⟩
        refine at_then ?_
        refine run_cond (b := ((decide (0 < a4463)) && (decide (0 ≤ t4545)))) rfl (fun hb4551 => ?_) (fun hb4551 => ?_)
        ·replace ho4427 := cond_t hb4551 ho4427
         refine run_seq ?_
         refine run_region rfl ?_
         refine ox rfl rfl rfl rfl (ex_assign rfl rfl) ?_
         refine ops_nil (at_then ?_)
         refine run_ret ?_
         refine at_block_ret ?_
         refine at_then_ret ?_
         refine at_then_ret ?_
         refine at_block_ret ?_
         refine at_then_ret ?_
         have hR := Option.some.inj ho4427
         subst hR
         have hT := thn_inl H
         have hR := Option.some.inj hT
         subst hR
         exact at_ret1 rfl rfl ⟨_, rfl, rfl, HM⟩
        ·replace ho4427 := cond_f hb4551 ho4427
         refine run_skip ?_
         refine at_block ?_
         refine at_then ?_
         refine run_region rfl ?_
         refine ox rfl rfl rfl rfl (ex_add rfl rfl rfl) ?_
         refine ox rfl rfl rfl rfl (ex_move rfl rfl) ?_
         refine ops_nil ?_
         exact at_again k4499 (ρ1 := [(0, p0), (9, p0), (10, .int .i64 (x0.length : Int)), (11, .int .i64 (wrap64 (a4463 + 1)))]) (Nat.lt_succ_self _) ⟨_, ho4427, rfl, HM⟩ (Sub.cons rfl (Sub.cons rfl (Sub.cons rfl (Sub.cons rfl Sub.nil))))
   ·replace ho4427 := cond_f hb4501 ho4427
    refine run_exit ?_
    refine at_then_exit ?_
    refine at_then_exit ?_
    refine at_block_exit ?_
    exact at_mid (ρ' := []) ⟨(Option.some.inj ho4427), rfl, HM⟩ Sub.nil
  ·rintro _ w4552 ⟨rfl, rfl, HM⟩
   replace H := (thn_inr H)
   refine run_seq ?_
   refine run_region rfl ?_
   refine ox rfl rfl rfl rfl (ex_assign rfl rfl) ?_
   refine ops_nil (at_then ?_)
   refine run_ret ?_
   have hR := Option.some.inj H
   subst hR
   exact at_ret1 rfl rfl ⟨_, rfl, rfl, HM⟩
end Go.Proofs.Ytecgbhfgkkpmhaa.Zk
