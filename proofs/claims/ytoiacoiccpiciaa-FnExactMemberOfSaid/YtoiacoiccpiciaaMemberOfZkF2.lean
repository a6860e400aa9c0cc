/- What functions of the program compute, each as a plain function, and that they do. Conditions: as each theorem states them. -/
import Derived.Test.YtoiacoiccpiciaaMemberOfZkF1
namespace Go.Proofs.Ytoiacoiccpiciaa.Zk
open Go Go.RowKit Go.IntWalk Go.Proofs
set_option linter.unusedVariables false
set_option linter.unusedSimpArgs false
set_option maxRecDepth 100000
set_option maxHeartbeats 4000000
def impl_findMember.f (k : Nat) (x0 : List Member) (x1 : Int) : Option (Int × Bool) := ((slices_BinarySearchFunc_impl_Member.f k x0 x1).bind fun t1331 => some (t1331.1, t1331.2))
theorem impl_findMember.calls {k : Nat} {x0 : List Member} {x1 : Int} {p0 : Value} {w : World} (hp0 : RdS kMember w p0 x0) {r : Int × Bool} (H : impl_findMember.f k x0 x1 = some r) :
    Calls Try.prog 118 ([p0, .int .i64 x1] : List Value).toArray w (fun e w_ => ∃ v, e = .returned v ∧ v = (.tuple #[.int .i64 r.1, .bool r.2]) ∧ Mem w [] w_ []) := by
  have HM := Mem.start w
  refine calls_run (N := 11) Try.func118 rfl rfl rfl rfl ?_
  unfold impl_findMember.f at H
  refine run_seq ?_
  refine run_region rfl ?_
  refine ops_ex rfl (guard_none rfl) rfl rfl (ex_assign rfl rfl) ?_
  refine ops_ex rfl (guard_none rfl) rfl rfl (ex_assign rfl rfl) ?_
  refine ops_nil ?_
  refine at_then ?_
  refine run_seq ?_
  obtain ⟨t1331, h1332, H⟩ := bind_some H
  refine run_region rfl ?_
  refine ops_ex rfl (guard_none rfl) rfl rfl (ex_move rfl rfl) ?_
  refine ops_ex rfl (guard_none rfl) rfl rfl (ex_move rfl rfl) ?_
  refine ops_does rfl (guard_none rfl) rfl rfl (does_callk rfl callok154 rfl (slices_BinarySearchFunc_impl_Member.calls (x0 := x0) (x1 := x1) (HM.rd hp0) h1332)) ?_
  rintro _ w1333 ⟨rfl, hn⟩
  replace HM : Mem w [] w1333 [] := HM.call hn
  refine ops_ex rfl (guard_none rfl) rfl rfl (ex_extract rfl rfl rfl) ?_
  refine ops_ex rfl (guard_none rfl) rfl rfl (ex_extract rfl rfl rfl) ?_
  refine ops_ex rfl (guard_none rfl) rfl rfl (ex_assign rfl rfl) ?_
  refine ops_ex rfl (guard_none rfl) rfl rfl (ex_assign rfl rfl) ?_
  refine ops_nil ?_
  refine at_then ?_
  refine run_ret ?_
  have hR := Option.some.inj H
  subst hR
  exact at_ret2 rfl rfl rfl ⟨_, rfl, rfl, HM⟩

def impl_MemberOf.f (k : Nat) (x0 : List Member) (x1 : Int) : Option MembersResult := ((impl_MembersFault.f k x0).bind fun t1350 => (bif (t1350 != 0) then some (⟨t1350, ([] : List Member)⟩ : MembersResult) else ((impl_findMember.f k x0 x1).bind fun t1356 => (bif !t1356.2 then some (⟨4, ([] : List Member)⟩ : MembersResult) else (chk (idxOk t1356.1 x0.length) (some (⟨0, ([(gt x0 t1356.1)] : List Member)⟩ : MembersResult)))))))
theorem impl_MemberOf.calls {k : Nat} {x0 : List Member} {x1 : Int} {p0 : Value} {w : World} (hp0 : RdS kMember w p0 x0) {r : MembersResult} (H : impl_MemberOf.f k x0 x1 = some r) :
    Calls Try.prog 58 ([p0, .int .i64 x1] : List Value).toArray w (fun e w_ => ∃ v, e = .returned v ∧ ∃ u0 : Value, v = (.agg #[.int .i64 r.fCode, u0]) ∧ Mem w [] w_ [own kMember 144 u0 r.fMembers]) := by
  have HM := Mem.start w
  refine calls_run (N := 29) Try.func58 rfl rfl rfl rfl ?_
  unfold impl_MemberOf.f at H
  refine run_seq ?_
  refine run_region rfl ?_
  refine ops_does rfl (guard_none rfl) rfl rfl (does_alloc (cs := [.int .i64 0, .slice none 0 0]) rfl tz85 rfl HM) ?_
  rintro _ w1346 ⟨b1343, rfl, HM⟩
  refine ops_nil ?_
  refine at_then ?_
  refine run_seq ?_
  refine run_seq ?_
  obtain ⟨t1350, h1351, H⟩ := bind_some H
  refine run_region rfl ?_
  refine ops_ex rfl (guard_none rfl) rfl rfl (ex_move rfl rfl) ?_
  refine ops_does rfl (guard_none rfl) rfl rfl (does_callk rfl callok98 rfl (impl_MembersFault.calls (x0 := x0) (HM.rd hp0) h1351)) ?_
  rintro _ w1352 ⟨rfl, hn⟩
  replace HM : Mem w [] w1352 [box b1343 85 [.int .i64 0, .slice none 0 0]] := HM.call hn
  refine ops_ex rfl (guard_none rfl) rfl rfl (ex_assign rfl rfl) ?_
  refine ops_nil ?_
  refine at_then ?_
  refine run_seq ?_
  refine run_region rfl ?_
  refine ops_ex rfl (guard_none rfl) rfl rfl (ex_move rfl rfl) ?_
  refine ops_ex rfl (guard_none rfl) rfl rfl (ex_neq rfl rfl rfl) ?_
  refine ops_nil ?_
  refine at_then ?_
  refine run_cond (b := (t1350 != 0)) rfl (fun hb1353 => ?_) (fun hb1353 => ?_)
  · replace H := cond_t hb1353 H
    refine run_seq ?_
    refine run_region rfl ?_
    refine ops_ex rfl (guard_none rfl) rfl rfl (ex_move rfl rfl) ?_
    refine ops_ex rfl (guard_none rfl) rfl rfl (ex_build (cells := #[(.int .i64 t1350), (.slice none 0 0)]) rfl rfl (by kernel_rfl)) ?_
    refine ops_doesS rfl (guard_none rfl) rfl (does_store (vs := [.int .i64 t1350, .slice none 0 0]) (cs' := [.int .i64 t1350, .slice none 0 0]) rfl rfl rfl rfl tsz85 (Ones.int (Ones.sl Ones.nil)) rfl rfl HM) ?_
    rintro w1354 HM
    refine ops_nil ?_
    refine at_then ?_
    refine run_ret ?_
    refine at_then_ret ?_
    replace HM := HM.empty kMember 144 none
    replace HM := HM.front 1 rfl rfl
    have hcb0 := HM.box_at 0 rfl
    replace HM := (HM.front 0 rfl rfl).drop
    have hR := Option.some.inj H
    subst hR
    exact at_retN rfl rfl Try.underlying85 rfl tsz85 rfl hcb0 ⟨_, rfl, _, rfl, HM⟩
  · replace H := cond_f hb1353 H
    refine run_skip ?_
    refine at_then ?_
    refine run_seq ?_
    obtain ⟨t1356, h1357, H⟩ := bind_some H
    refine run_region rfl ?_
    refine ops_ex rfl (guard_none rfl) rfl rfl (ex_move rfl rfl) ?_
    refine ops_ex rfl (guard_none rfl) rfl rfl (ex_move rfl rfl) ?_
    refine ops_does rfl (guard_none rfl) rfl rfl (does_callk rfl callok118 rfl (impl_findMember.calls (x0 := x0) (x1 := x1) (HM.rd hp0) h1357)) ?_
    rintro _ w1358 ⟨rfl, hn⟩
    replace HM : Mem w [] w1358 [box b1343 85 [.int .i64 0, .slice none 0 0]] := HM.call hn
    refine ops_ex rfl (guard_none rfl) rfl rfl (ex_move rfl rfl) ?_
    refine ops_ex rfl (guard_none rfl) rfl rfl (ex_extract rfl rfl rfl) ?_
    refine ops_ex rfl (guard_none rfl) rfl rfl (ex_extract rfl rfl rfl) ?_
    refine ops_ex rfl (guard_none rfl) rfl rfl (ex_assign rfl rfl) ?_
    refine ops_ex rfl (guard_none rfl) rfl rfl (ex_assign rfl rfl) ?_
    refine ops_nil ?_
    refine at_then ?_
    refine run_seq ?_
    refine run_seq ?_
    refine run_region rfl ?_
    refine ops_ex rfl (guard_none rfl) rfl rfl (ex_move rfl rfl) ?_
    refine ops_ex rfl (guard_none rfl) rfl rfl (ex_not rfl rfl) ?_
    refine ops_nil ?_
    refine at_then ?_
    refine run_cond (b := !t1356.2) rfl (fun hb1360 => ?_) (fun hb1360 => ?_)
    · replace H := cond_t hb1360 H
      refine run_seq ?_
      refine run_region rfl ?_
      refine ops_ex rfl (guard_none rfl) rfl rfl (ex_build (cells := #[(.int .i64 4), (.slice none 0 0)]) rfl rfl (by kernel_rfl)) ?_
      refine ops_doesS rfl (guard_none rfl) rfl (does_store (vs := [.int .i64 4, .slice none 0 0]) (cs' := [.int .i64 4, .slice none 0 0]) rfl rfl rfl rfl tsz85 (Ones.int (Ones.sl Ones.nil)) rfl rfl HM) ?_
      rintro w1361 HM
      refine ops_nil ?_
      refine at_then ?_
      refine run_ret ?_
      refine at_then_ret ?_
      replace HM := HM.empty kMember 144 none
      replace HM := HM.front 1 rfl rfl
      have hcb0 := HM.box_at 0 rfl
      replace HM := (HM.front 0 rfl rfl).drop
      have hR := Option.some.inj H
      subst hR
      exact at_retN rfl rfl Try.underlying85 rfl tsz85 rfl hcb0 ⟨_, rfl, _, rfl, HM⟩
    · replace H := cond_f hb1360 H
      refine run_skip ?_
      refine at_then ?_
      refine run_seq ?_
      obtain ⟨e1363, H⟩ := chk_some H
      refine run_region rfl ?_
      refine ops_ex rfl (guard_none rfl) rfl rfl (ex_move rfl rfl) ?_
      refine ops_ex rfl (guard_none rfl) rfl rfl (ex_move rfl rfl) ?_
      have hc1364 : CellsAt _ (sb p0) (so p0 + (t1356.1).toNat * 3) [(.int .i64 ((gt x0 t1356.1).fKey)), (.int .i64 ((gt x0 t1356.1).fRef.fTx)), (.int .i64 ((gt x0 t1356.1).fRef.fAt))] := rd_plain hp0 e1363
      refine ops_ex rfl (guard_none rfl) rfl rfl (ex_indexAddr (d := kMember) rfl rfl rfl Try.underlying49 tsz144 hp0 (idx_lo e1363) (idx_hi e1363)) ?_
      refine ops_ex rfl (guard_none rfl) rfl rfl (ex_loadN (cs := [(.int .i64 ((gt x0 t1356.1).fKey)), (.int .i64 ((gt x0 t1356.1).fRef.fTx)), (.int .i64 ((gt x0 t1356.1).fRef.fAt))]) rfl rfl Try.underlying144 rfl tsz144 rfl ((HM.at_ hc1364).sub 0 3 rfl)) ?_
      refine ops_does rfl (guard_none rfl) rfl rfl (does_lit (e := 144) (cs := [.int .i64 ((gt x0 t1356.1).fKey), .int .i64 ((gt x0 t1356.1).fRef.fTx), .int .i64 ((gt x0 t1356.1).fRef.fAt)]) (xs := ([(gt x0 t1356.1)] : List Member)) kMember rfl rfl (fun _ => by kernel_rfl) rfl rfl (fun _ _ h => by have h' : _ = [] := h; subst h'; exact (Elems.cons (d := kMember) (f := []) ⟨rfl, rfl⟩ .nil)) HM.emp) ?_
      rintro v1365 w1368 HM
      refine ops_ex rfl (guard_none rfl) rfl rfl (ex_build1 (fun v1365 => [(1, v1365)]) (fun v1365 => #[.int .i64 0, v1365]) rfl rfl (fun _ _ _ => by kernel_rfl) (HM.own_rd 0 rfl).isSl) ?_
      replace HM := HM.front 1 rfl rfl
      refine ops_doesS rfl (guard_none rfl) rfl (does_store (vs := [.int .i64 0, v1365]) (cs' := [.int .i64 0, v1365]) rfl rfl rfl rfl tsz85 (Ones.int (Ones.rd (HM.own_rd 1 rfl) Ones.nil)) rfl rfl HM) ?_
      rintro w1369 HM
      refine ops_nil ?_
      refine at_then ?_
      refine run_ret ?_
      have hcb0 := HM.box_at 0 rfl
      replace HM := (HM.front 0 rfl rfl).drop
      have hR := Option.some.inj H
      subst hR
      exact at_retN rfl rfl Try.underlying85 rfl tsz85 rfl hcb0 ⟨_, rfl, _, rfl, HM⟩

def laws_eqRef.f (k : Nat) (x0 : Ref) (x1 : Ref) : Option Bool := (bif (x0.fTx != x1.fTx) then some false else (bif (x0.fAt != x1.fAt) then some false else some true))
theorem laws_eqRef.calls {k : Nat} {x0 : Ref} {x1 : Ref}  {w : World}  {r : Bool} (H : laws_eqRef.f k x0 x1 = some r) :
    Calls Try.prog 124 ([.agg #[(.int .i64 x0.fTx), (.int .i64 x0.fAt)], .agg #[(.int .i64 x1.fTx), (.int .i64 x1.fAt)]] : List Value).toArray w (fun e w_ => ∃ v, e = .returned v ∧ v = (.bool r) ∧ Mem w [] w_ []) := by
  have HM := Mem.start w
  refine calls_run (N := 15) Try.func124 rfl rfl rfl rfl ?_
  unfold laws_eqRef.f at H
  refine run_seq ?_
  refine run_region rfl ?_
  refine ops_does rfl (guard_none rfl) rfl rfl (does_box (cs := [.int .i64 x0.fTx, .int .i64 x0.fAt]) rfl rfl rfl HM) ?_
  rintro _ w1415 ⟨b1409, rfl, HM⟩
  refine ops_does rfl (guard_none rfl) rfl rfl (does_box (cs := [.int .i64 x1.fTx, .int .i64 x1.fAt]) rfl rfl rfl HM) ?_
  rintro _ w1416 ⟨b1412, rfl, HM⟩
  refine ops_ex rfl (guard_none rfl) rfl rfl (ex_assign rfl rfl) ?_
  refine ops_nil ?_
  refine at_then ?_
  refine run_seq ?_
  refine run_seq ?_
  refine run_region rfl ?_
  refine ops_ex rfl (guard_none rfl) rfl rfl (ex_fieldAddr (off' := 0) rfl rfl Try.underlying99 rfl tsz2 rfl) ?_
  refine ops_ex rfl (guard_none rfl) rfl rfl (ex_load1 rfl rfl Try.underlying2 rfl ((HM.box_at 1 rfl) 0 _ rfl)) ?_
  refine ops_ex rfl (guard_none rfl) rfl rfl (ex_fieldAddr (off' := 0) rfl rfl Try.underlying99 rfl tsz2 rfl) ?_
  refine ops_ex rfl (guard_none rfl) rfl rfl (ex_load1 rfl rfl Try.underlying2 rfl ((HM.box_at 0 rfl) 0 _ rfl)) ?_
  refine ops_ex rfl (guard_none rfl) rfl rfl (ex_neq rfl rfl rfl) ?_
  refine ops_nil ?_
  refine at_then ?_
  refine run_cond (b := (x0.fTx != x1.fTx)) rfl (fun hb1418 => ?_) (fun hb1418 => ?_)
  · replace H := cond_t hb1418 H
    refine run_seq ?_
    refine run_region rfl ?_
    refine ops_ex rfl (guard_none rfl) rfl rfl (ex_assign rfl rfl) ?_
    refine ops_nil ?_
    refine at_then ?_
    refine run_ret ?_
    refine at_then_ret ?_
    replace HM := (HM.front 0 rfl rfl).drop
    replace HM := (HM.front 0 rfl rfl).drop
    have hR := Option.some.inj H
    subst hR
    exact at_ret1 rfl rfl ⟨_, rfl, rfl, HM⟩
  · replace H := cond_f hb1418 H
    refine run_skip ?_
    refine at_then ?_
    refine run_seq ?_
    refine run_seq ?_
    refine run_region rfl ?_
    refine ops_ex rfl (guard_none rfl) rfl rfl (ex_fieldAddr (off' := 1) rfl rfl Try.underlying99 rfl tsz2 rfl) ?_
    refine ops_ex rfl (guard_none rfl) rfl rfl (ex_load1 rfl rfl Try.underlying2 rfl ((HM.box_at 1 rfl) 1 _ rfl)) ?_
    refine ops_ex rfl (guard_none rfl) rfl rfl (ex_fieldAddr (off' := 1) rfl rfl Try.underlying99 rfl tsz2 rfl) ?_
    refine ops_ex rfl (guard_none rfl) rfl rfl (ex_load1 rfl rfl Try.underlying2 rfl ((HM.box_at 0 rfl) 1 _ rfl)) ?_
    refine ops_ex rfl (guard_none rfl) rfl rfl (ex_neq rfl rfl rfl) ?_
    refine ops_nil ?_
    refine at_then ?_
    refine run_cond (b := (x0.fAt != x1.fAt)) rfl (fun hb1419 => ?_) (fun hb1419 => ?_)
    · replace H := cond_t hb1419 H
      refine run_seq ?_
      refine run_region rfl ?_
      refine ops_ex rfl (guard_none rfl) rfl rfl (ex_assign rfl rfl) ?_
      refine ops_nil ?_
      refine at_then ?_
      refine run_ret ?_
      refine at_then_ret ?_
      replace HM := (HM.front 0 rfl rfl).drop
      replace HM := (HM.front 0 rfl rfl).drop
      have hR := Option.some.inj H
      subst hR
      exact at_ret1 rfl rfl ⟨_, rfl, rfl, HM⟩
    · replace H := cond_f hb1419 H
      refine run_skip ?_
      refine at_then ?_
      refine run_seq ?_
      refine run_region rfl ?_
      refine ops_ex rfl (guard_none rfl) rfl rfl (ex_assign rfl rfl) ?_
      refine ops_nil ?_
      refine at_then ?_
      refine run_ret ?_
      replace HM := (HM.front 0 rfl rfl).drop
      replace HM := (HM.front 0 rfl rfl).drop
      have hR := Option.some.inj H
      subst hR
      exact at_ret1 rfl rfl ⟨_, rfl, rfl, HM⟩

def laws_eqMember.f (k : Nat) (x0 : Member) (x1 : Member) : Option Bool := (bif (x0.fKey != x1.fKey) then some false else ((laws_eqRef.f k x0.fRef x1.fRef).bind fun t1433 => (bif !t1433 then some false else some true)))
theorem laws_eqMember.calls {k : Nat} {x0 : Member} {x1 : Member}  {w : World}  {r : Bool} (H : laws_eqMember.f k x0 x1 = some r) :
    Calls Try.prog 114 ([.agg #[(.int .i64 x0.fKey), (.int .i64 x0.fRef.fTx), (.int .i64 x0.fRef.fAt)], .agg #[(.int .i64 x1.fKey), (.int .i64 x1.fRef.fTx), (.int .i64 x1.fRef.fAt)]] : List Value).toArray w (fun e w_ => ∃ v, e = .returned v ∧ v = (.bool r) ∧ Mem w [] w_ []) := by
  have HM := Mem.start w
  refine calls_run (N := 16) Try.func114 rfl rfl rfl rfl ?_
  unfold laws_eqMember.f at H
  refine run_seq ?_
  refine run_region rfl ?_
  refine ops_does rfl (guard_none rfl) rfl rfl (does_box (cs := [.int .i64 x0.fKey, .int .i64 x0.fRef.fTx, .int .i64 x0.fRef.fAt]) rfl rfl rfl HM) ?_
  rintro _ w1429 ⟨b1423, rfl, HM⟩
  refine ops_does rfl (guard_none rfl) rfl rfl (does_box (cs := [.int .i64 x1.fKey, .int .i64 x1.fRef.fTx, .int .i64 x1.fRef.fAt]) rfl rfl rfl HM) ?_
  rintro _ w1430 ⟨b1426, rfl, HM⟩
  refine ops_ex rfl (guard_none rfl) rfl rfl (ex_assign rfl rfl) ?_
  refine ops_nil ?_
  refine at_then ?_
  refine run_seq ?_
  refine run_seq ?_
  refine run_region rfl ?_
  refine ops_ex rfl (guard_none rfl) rfl rfl (ex_fieldAddr (off' := 0) rfl rfl Try.underlying144 rfl tsz2 rfl) ?_
  refine ops_ex rfl (guard_none rfl) rfl rfl (ex_load1 rfl rfl Try.underlying2 rfl ((HM.box_at 1 rfl) 0 _ rfl)) ?_
  refine ops_ex rfl (guard_none rfl) rfl rfl (ex_fieldAddr (off' := 0) rfl rfl Try.underlying144 rfl tsz2 rfl) ?_
  refine ops_ex rfl (guard_none rfl) rfl rfl (ex_load1 rfl rfl Try.underlying2 rfl ((HM.box_at 0 rfl) 0 _ rfl)) ?_
  refine ops_ex rfl (guard_none rfl) rfl rfl (ex_neq rfl rfl rfl) ?_
  refine ops_nil ?_
  refine at_then ?_
  refine run_cond (b := (x0.fKey != x1.fKey)) rfl (fun hb1432 => ?_) (fun hb1432 => ?_)
  · replace H := cond_t hb1432 H
    refine run_seq ?_
    refine run_region rfl ?_
    refine ops_ex rfl (guard_none rfl) rfl rfl (ex_assign rfl rfl) ?_
    refine ops_nil ?_
    refine at_then ?_
    refine run_ret ?_
    refine at_then_ret ?_
    replace HM := (HM.front 0 rfl rfl).drop
    replace HM := (HM.front 0 rfl rfl).drop
    have hR := Option.some.inj H
    subst hR
    exact at_ret1 rfl rfl ⟨_, rfl, rfl, HM⟩
  · replace H := cond_f hb1432 H
    refine run_skip ?_
    refine at_then ?_
    refine run_seq ?_
    refine run_seq ?_
    obtain ⟨t1433, h1434, H⟩ := bind_some H
    refine run_region rfl ?_
    refine ops_ex rfl (guard_none rfl) rfl rfl (ex_fieldAddr (off' := 1) rfl rfl Try.underlying144 rfl tsz99 rfl) ?_
    refine ops_ex rfl (guard_none rfl) rfl rfl (ex_loadN (cs := [(.int .i64 x0.fRef.fTx), (.int .i64 x0.fRef.fAt)]) rfl rfl Try.underlying99 rfl tsz99 rfl ((HM.box_at 1 rfl).sub 1 2 rfl)) ?_
    refine ops_ex rfl (guard_none rfl) rfl rfl (ex_fieldAddr (off' := 1) rfl rfl Try.underlying144 rfl tsz99 rfl) ?_
    refine ops_ex rfl (guard_none rfl) rfl rfl (ex_loadN (cs := [(.int .i64 x1.fRef.fTx), (.int .i64 x1.fRef.fAt)]) rfl rfl Try.underlying99 rfl tsz99 rfl ((HM.box_at 0 rfl).sub 1 2 rfl)) ?_
    refine ops_does rfl (guard_none rfl) rfl rfl (does_callk rfl callok124 rfl (laws_eqRef.calls (x0 := x0.fRef) (x1 := x1.fRef) h1434)) ?_
    rintro _ w1435 ⟨rfl, hn⟩
    replace HM : Mem w [] w1435 [box b1426 144 [.int .i64 x1.fKey, .int .i64 x1.fRef.fTx, .int .i64 x1.fRef.fAt], box b1423 144 [.int .i64 x0.fKey, .int .i64 x0.fRef.fTx, .int .i64 x0.fRef.fAt]] := HM.call hn
    refine ops_ex rfl (guard_none rfl) rfl rfl (ex_not rfl rfl) ?_
    refine ops_nil ?_
    refine at_then ?_
    refine run_cond (b := !t1433) rfl (fun hb1436 => ?_) (fun hb1436 => ?_)
    · replace H := cond_t hb1436 H
      refine run_seq ?_
      refine run_region rfl ?_
      refine ops_ex rfl (guard_none rfl) rfl rfl (ex_assign rfl rfl) ?_
      refine ops_nil ?_
      refine at_then ?_
      refine run_ret ?_
      refine at_then_ret ?_
      replace HM := (HM.front 0 rfl rfl).drop
      replace HM := (HM.front 0 rfl rfl).drop
      have hR := Option.some.inj H
      subst hR
      exact at_ret1 rfl rfl ⟨_, rfl, rfl, HM⟩
    · replace H := cond_f hb1436 H
      refine run_skip ?_
      refine at_then ?_
      refine run_seq ?_
      refine run_region rfl ?_
      refine ops_ex rfl (guard_none rfl) rfl rfl (ex_assign rfl rfl) ?_
      refine ops_nil ?_
      refine at_then ?_
      refine run_ret ?_
      replace HM := (HM.front 0 rfl rfl).drop
      replace HM := (HM.front 0 rfl rfl).drop
      have hR := Option.some.inj H
      subst hR
      exact at_ret1 rfl rfl ⟨_, rfl, rfl, HM⟩

def laws_eqMemberS.l0 (x0 : List Member) (x1 : List Member) : Nat → Int → Option (Bool ⊕ Unit)
  | 0, _ => none
  | k + 1, a1496 => (bif (decide (a1496 < (x0.length : Int))) then (chk (idxOk a1496 x0.length) (chk (idxOk a1496 x1.length) ((laws_eqMember.f k (gt x0 a1496) (gt x1 a1496)).bind fun t1512 => (bif !t1512 then some (.inl false) else laws_eqMemberS.l0 x0 x1 k (wrap64 (a1496 + 1)))))) else some (.inr ()))
theorem laws_eqMemberS.l0_z (x0 : List Member) (x1 : List Member) (a1496 : Int) : laws_eqMemberS.l0 x0 x1 0 a1496 = none := rfl
theorem laws_eqMemberS.l0_s (x0 : List Member) (x1 : List Member) (k : Nat) (a1496 : Int) : laws_eqMemberS.l0 x0 x1 (k + 1) a1496 = (bif (decide (a1496 < (x0.length : Int))) then (chk (idxOk a1496 x0.length) (chk (idxOk a1496 x1.length) ((laws_eqMember.f k (gt x0 a1496) (gt x1 a1496)).bind fun t1512 => (bif !t1512 then some (.inl false) else laws_eqMemberS.l0 x0 x1 k (wrap64 (a1496 + 1)))))) else some (.inr ())) := rfl
def laws_eqMemberS.f (k : Nat) (x0 : List Member) (x1 : List Member) : Option Bool := (bif ((x0.length : Int) != (x1.length : Int)) then some false else ((laws_eqMemberS.l0 x0 x1 k 0).bind fun o1486 => thn o1486 (fun r => some r) (fun _ => some true)))
theorem laws_eqMemberS.calls {k : Nat} {x0 : List Member} {x1 : List Member} {p0 : Value} {p1 : Value} {w : World} (hp0 : RdS kMember w p0 x0) (hp1 : RdS kMember w p1 x1) {r : Bool} (H : laws_eqMemberS.f k x0 x1 = some r) :
    Calls Try.prog 53 ([p0, p1] : List Value).toArray w (fun e w_ => ∃ v, e = .returned v ∧ v = (.bool r) ∧ Mem w [] w_ []) := by
  have HM := Mem.start w
  refine calls_run (N := 27) Try.func53 rfl rfl rfl rfl ?_
  unfold laws_eqMemberS.f at H
  refine run_seq ?_
  refine run_region rfl ?_
  refine ops_ex rfl (guard_none rfl) rfl rfl (ex_assign rfl rfl) ?_
  refine ops_nil ?_
  refine at_then ?_
  refine run_seq ?_
  refine run_seq ?_
  refine run_region rfl ?_
  refine ops_ex rfl (guard_none rfl) rfl rfl (ex_move rfl rfl) ?_
  refine ops_ex rfl (guard_none rfl) rfl rfl (ex_len (d := kMember) (xs := x0) rfl rfl Try.underlying49 hp0) ?_
  refine ops_ex rfl (guard_none rfl) rfl rfl (ex_move rfl rfl) ?_
  refine ops_ex rfl (guard_none rfl) rfl rfl (ex_len (d := kMember) (xs := x1) rfl rfl Try.underlying49 hp1) ?_
  refine ops_ex rfl (guard_none rfl) rfl rfl (ex_neq rfl rfl rfl) ?_
  refine ops_nil ?_
  refine at_then ?_
  refine run_cond (b := ((x0.length : Int) != (x1.length : Int))) rfl (fun hb1460 => ?_) (fun hb1460 => ?_)
  · replace H := cond_t hb1460 H
    refine run_seq ?_
    refine run_region rfl ?_
    refine ops_ex rfl (guard_none rfl) rfl rfl (ex_assign rfl rfl) ?_
    refine ops_nil ?_
    refine at_then ?_
    refine run_ret ?_
    refine at_then_ret ?_
    have hR := Option.some.inj H
    subst hR
    exact at_ret1 rfl rfl ⟨_, rfl, rfl, HM⟩
  · replace H := cond_f hb1460 H
    refine run_skip ?_
    refine at_then ?_
    obtain ⟨o1486, ho1487, H⟩ := bind_some H
    refine run_mid (fun ρ_ w_ => Sum.inr () = o1486 ∧ ρ_ = [] ∧ Mem w [] w_ []) ?_ ?_
    · skip
      refine run_seq ?_
      refine run_region rfl ?_
      refine ops_ex rfl (guard_none rfl) rfl rfl (ex_assign rfl rfl) ?_
      refine ops_nil ?_
      refine at_then ?_
      refine run_block ?_
      refine run_loop (fun k_ ρ_ w_ => ∃ a1496 : Int, laws_eqMemberS.l0 x0 x1 k_ a1496 = some o1486 ∧ ρ_ = [(0, p0), (1, p1), (5, .int .i64 a1496)] ∧ Mem w [] w_ []) k (ρ1 := [(0, p0), (1, p1), (5, .int .i64 0)]) ⟨_, ho1487, rfl, HM⟩ (Sub.cons rfl (Sub.cons rfl (Sub.cons rfl Sub.nil))) ?_
      clear HM ho1487
      rintro k1505 _ w1506 ⟨a1496, ho1487, rfl, HM⟩
      obtain _ | k1505 := k1505
      · exact nomatch ((laws_eqMemberS.l0_z x0 x1 a1496).symm.trans ho1487)
      replace ho1487 := (laws_eqMemberS.l0_s x0 x1 k1505 a1496).symm.trans ho1487
      refine run_seq ?_
      refine run_seq ?_
      refine run_region rfl ?_
      refine ops_ex rfl (guard_none rfl) rfl rfl (ex_move rfl rfl) ?_
      refine ops_ex rfl (guard_none rfl) rfl rfl (ex_move rfl rfl) ?_
      refine ops_ex rfl (guard_none rfl) rfl rfl (ex_len (d := kMember) (xs := x0) rfl rfl Try.underlying49 hp0) ?_
      refine ops_ex rfl (guard_none rfl) rfl rfl (ex_lss rfl rfl rfl) ?_
      refine ops_nil ?_
      refine at_then ?_
      refine run_cond (b := (decide (a1496 < (x0.length : Int)))) rfl (fun hb1507 => ?_) (fun hb1507 => ?_)
      · replace ho1487 := cond_t hb1507 ho1487
        refine run_skip ?_
        refine at_then ?_
        refine run_seq ?_
        refine run_block ?_
        refine run_seq ?_
        obtain ⟨e1508, ho1487⟩ := chk_some ho1487
        obtain ⟨e1510, ho1487⟩ := chk_some ho1487
        obtain ⟨t1512, h1513, ho1487⟩ := bind_some ho1487
        refine run_drawf (fun w_ => Mem w [] w_ []) [(0, true), (1, true), (2, true), (3, true), (4, true), (5, true), (6, true), (7, true), (8, false), (9, true)] mixed rfl rfl (by kernel_rfl) ?_
        replace HM := HM.grow (fr_drew _)
        have hS := Mem.suf (M := []) HM
        refine drwp_take rfl (guard_none rfl) rfl rfl (fun w_ hS_ => (ex_move rfl rfl)) hS ?_
        refine drwp_take rfl (guard_none rfl) rfl rfl (fun w_ hS_ => (ex_move rfl rfl)) hS ?_
        have hc1509 : CellsAt _ (sb p0) (so p0 + (a1496).toNat * 3) [(.int .i64 ((gt x0 a1496).fKey)), (.int .i64 ((gt x0 a1496).fRef.fTx)), (.int .i64 ((gt x0 a1496).fRef.fAt))] := rd_plain hp0 e1508
        refine drwp_take rfl (guard_none rfl) rfl rfl (fun w_ hS_ => (ex_indexAddr (d := kMember) rfl rfl rfl Try.underlying49 tsz144 hp0 (idx_lo e1508) (idx_hi e1508))) hS ?_
        refine drwp_take rfl (guard_none rfl) rfl rfl (fun w_ hS_ => (ex_loadN (cs := [(.int .i64 ((gt x0 a1496).fKey)), (.int .i64 ((gt x0 a1496).fRef.fTx)), (.int .i64 ((gt x0 a1496).fRef.fAt))]) rfl rfl Try.underlying144 rfl tsz144 rfl ((hS_.at_ hc1509).sub 0 3 rfl))) hS ?_
        refine drwp_take rfl (guard_none rfl) rfl rfl (fun w_ hS_ => (ex_move rfl rfl)) hS ?_
        refine drwp_take rfl (guard_none rfl) rfl rfl (fun w_ hS_ => (ex_move rfl rfl)) hS ?_
        have hc1511 : CellsAt _ (sb p1) (so p1 + (a1496).toNat * 3) [(.int .i64 ((gt x1 a1496).fKey)), (.int .i64 ((gt x1 a1496).fRef.fTx)), (.int .i64 ((gt x1 a1496).fRef.fAt))] := rd_plain hp1 e1510
        refine drwp_take rfl (guard_none rfl) rfl rfl (fun w_ hS_ => (ex_indexAddr (d := kMember) rfl rfl rfl Try.underlying49 tsz144 hp1 (idx_lo e1510) (idx_hi e1510))) hS ?_
        refine drwp_take rfl (guard_none rfl) rfl rfl (fun w_ hS_ => (ex_loadN (cs := [(.int .i64 ((gt x1 a1496).fKey)), (.int .i64 ((gt x1 a1496).fRef.fTx)), (.int .i64 ((gt x1 a1496).fRef.fAt))]) rfl rfl Try.underlying144 rfl tsz144 rfl ((hS_.at_ hc1511).sub 0 3 rfl))) hS ?_
        refine drwp_one rfl (guard_none rfl) rfl rfl (does_callk rfl callok114 rfl (laws_eqMember.calls (x0 := (gt x0 a1496)) (x1 := (gt x1 a1496)) h1513)) ?_
        rintro _ w1514 ⟨rfl, hn⟩
        replace HM : Mem w [] w1514 [] := HM.call hn
        refine ⟨Mem.suf (M := []) HM, ?_⟩
        have hS := Mem.suf (M := []) HM
        refine drwp_take rfl (guard_none rfl) rfl rfl (fun w_ hS_ => (ex_not rfl rfl)) hS ?_
        refine drwp_done ?_
        refine at_then ?_
        refine run_cond (b := !t1512) rfl (fun hb1515 => ?_) (fun hb1515 => ?_)
        · replace ho1487 := cond_t hb1515 ho1487
          refine run_seq ?_
          refine run_region rfl ?_
          refine ops_ex rfl (guard_none rfl) rfl rfl (ex_assign rfl rfl) ?_
          refine ops_nil ?_
          refine at_then ?_
          refine run_ret ?_
          refine at_block_ret ?_
          refine at_then_ret ?_
          refine at_then_ret ?_
          refine at_block_ret ?_
          refine at_then_ret ?_
          have hR := Option.some.inj ho1487
          subst hR
          have hT := thn_inl H
          have hR := Option.some.inj hT
          subst hR
          exact at_ret1 rfl rfl ⟨_, rfl, rfl, HM⟩
        · replace ho1487 := cond_f hb1515 ho1487
          refine run_skip ?_
          refine at_block ?_
          refine at_then ?_
          refine run_region rfl ?_
          refine ops_ex rfl (guard_none rfl) rfl rfl (ex_move rfl rfl) ?_
          refine ops_ex rfl (guard_none rfl) rfl rfl (ex_add rfl rfl rfl) ?_
          refine ops_ex rfl (guard_none rfl) rfl rfl (ex_assign rfl rfl) ?_
          refine ops_nil ?_
          exact at_again k1505 (ρ1 := [(0, p0), (1, p1), (5, .int .i64 (wrap64 (a1496 + 1)))]) (Nat.lt_succ_self _) ⟨_, ho1487, rfl, HM⟩ (Sub.cons rfl (Sub.cons rfl (Sub.cons rfl Sub.nil)))
      · replace ho1487 := cond_f hb1507 ho1487
        refine run_exit ?_
        refine at_then_exit ?_
        refine at_then_exit ?_
        refine at_block_exit ?_
        exact at_mid (ρ' := []) ⟨(Option.some.inj ho1487), rfl, HM⟩ Sub.nil
    · rintro _ w1516 ⟨rfl, rfl, HM⟩
      replace H := (thn_inr H)
      refine run_seq ?_
      refine run_region rfl ?_
      refine ops_ex rfl (guard_none rfl) rfl rfl (ex_assign rfl rfl) ?_
      refine ops_nil ?_
      refine at_then ?_
      refine run_ret ?_
      have hR := Option.some.inj H
      subst hR
      exact at_ret1 rfl rfl ⟨_, rfl, rfl, HM⟩

def laws_eqMembersResult.f (k : Nat) (x0 : MembersResult) (x1 : MembersResult) : Option Bool := (bif (x0.fCode != x1.fCode) then some false else ((laws_eqMemberS.f k x0.fMembers x1.fMembers).bind fun t1530 => (bif !t1530 then some false else some true)))
theorem laws_eqMembersResult.calls {k : Nat} {x0 : MembersResult} {x1 : MembersResult} {p0_0 : Value} {p1_0 : Value} {w : World} (hp0_0 : RdS kMember w p0_0 x0.fMembers) (hp1_0 : RdS kMember w p1_0 x1.fMembers) {r : Bool} (H : laws_eqMembersResult.f k x0 x1 = some r) :
    Calls Try.prog 59 ([.agg #[(.int .i64 x0.fCode), p0_0], .agg #[(.int .i64 x1.fCode), p1_0]] : List Value).toArray w (fun e w_ => ∃ v, e = .returned v ∧ v = (.bool r) ∧ Mem w [] w_ []) := by
  have HM := Mem.start w
  refine calls_run (N := 16) Try.func59 rfl rfl rfl rfl ?_
  unfold laws_eqMembersResult.f at H
  refine run_seq ?_
  refine run_region rfl ?_
  refine ops_does rfl (guard_none rfl) rfl rfl (does_box (cs := [.int .i64 x0.fCode, p0_0]) rfl rfl rfl HM) ?_
  rintro _ w1526 ⟨b1520, rfl, HM⟩
  refine ops_does rfl (guard_none rfl) rfl rfl (does_box (cs := [.int .i64 x1.fCode, p1_0]) rfl rfl rfl HM) ?_
  rintro _ w1527 ⟨b1523, rfl, HM⟩
  refine ops_ex rfl (guard_none rfl) rfl rfl (ex_assign rfl rfl) ?_
  refine ops_nil ?_
  refine at_then ?_
  refine run_seq ?_
  refine run_seq ?_
  refine run_region rfl ?_
  refine ops_ex rfl (guard_none rfl) rfl rfl (ex_fieldAddr (off' := 0) rfl rfl Try.underlying85 rfl tsz2 rfl) ?_
  refine ops_ex rfl (guard_none rfl) rfl rfl (ex_load1 rfl rfl Try.underlying2 rfl ((HM.box_at 1 rfl) 0 _ rfl)) ?_
  refine ops_ex rfl (guard_none rfl) rfl rfl (ex_fieldAddr (off' := 0) rfl rfl Try.underlying85 rfl tsz2 rfl) ?_
  refine ops_ex rfl (guard_none rfl) rfl rfl (ex_load1 rfl rfl Try.underlying2 rfl ((HM.box_at 0 rfl) 0 _ rfl)) ?_
  refine ops_ex rfl (guard_none rfl) rfl rfl (ex_neq rfl rfl rfl) ?_
  refine ops_nil ?_
  refine at_then ?_
  refine run_cond (b := (x0.fCode != x1.fCode)) rfl (fun hb1529 => ?_) (fun hb1529 => ?_)
  · replace H := cond_t hb1529 H
    refine run_seq ?_
    refine run_region rfl ?_
    refine ops_ex rfl (guard_none rfl) rfl rfl (ex_assign rfl rfl) ?_
    refine ops_nil ?_
    refine at_then ?_
    refine run_ret ?_
    refine at_then_ret ?_
    replace HM := (HM.front 0 rfl rfl).drop
    replace HM := (HM.front 0 rfl rfl).drop
    have hR := Option.some.inj H
    subst hR
    exact at_ret1 rfl rfl ⟨_, rfl, rfl, HM⟩
  · replace H := cond_f hb1529 H
    refine run_skip ?_
    refine at_then ?_
    refine run_seq ?_
    refine run_seq ?_
    obtain ⟨t1530, h1531, H⟩ := bind_some H
    refine run_region rfl ?_
    refine ops_ex rfl (guard_none rfl) rfl rfl (ex_fieldAddr (off' := 1) rfl rfl Try.underlying85 rfl tsz49 rfl) ?_
    refine ops_ex rfl (guard_none rfl) rfl rfl (ex_load1 rfl rfl Try.underlying49 rfl ((HM.box_at 1 rfl) 1 _ rfl)) ?_
    refine ops_ex rfl (guard_none rfl) rfl rfl (ex_fieldAddr (off' := 1) rfl rfl Try.underlying85 rfl tsz49 rfl) ?_
    refine ops_ex rfl (guard_none rfl) rfl rfl (ex_load1 rfl rfl Try.underlying49 rfl ((HM.box_at 0 rfl) 1 _ rfl)) ?_
    refine ops_does rfl (guard_none rfl) rfl rfl (does_callk rfl callok53 rfl (laws_eqMemberS.calls (x0 := x0.fMembers) (x1 := x1.fMembers) (HM.rd hp0_0) (HM.rd hp1_0) h1531)) ?_
    rintro _ w1532 ⟨rfl, hn⟩
    replace HM : Mem w [] w1532 [box b1523 85 [.int .i64 x1.fCode, p1_0], box b1520 85 [.int .i64 x0.fCode, p0_0]] := HM.call hn
    refine ops_ex rfl (guard_none rfl) rfl rfl (ex_not rfl rfl) ?_
    refine ops_nil ?_
    refine at_then ?_
    refine run_cond (b := !t1530) rfl (fun hb1533 => ?_) (fun hb1533 => ?_)
    · replace H := cond_t hb1533 H
      refine run_seq ?_
      refine run_region rfl ?_
      refine ops_ex rfl (guard_none rfl) rfl rfl (ex_assign rfl rfl) ?_
      refine ops_nil ?_
      refine at_then ?_
      refine run_ret ?_
      refine at_then_ret ?_
      replace HM := (HM.front 0 rfl rfl).drop
      replace HM := (HM.front 0 rfl rfl).drop
      have hR := Option.some.inj H
      subst hR
      exact at_ret1 rfl rfl ⟨_, rfl, rfl, HM⟩
    · replace H := cond_f hb1533 H
      refine run_skip ?_
      refine at_then ?_
      refine run_seq ?_
      refine run_region rfl ?_
      refine ops_ex rfl (guard_none rfl) rfl rfl (ex_assign rfl rfl) ?_
      refine ops_nil ?_
      refine at_then ?_
      refine run_ret ?_
      replace HM := (HM.front 0 rfl rfl).drop
      replace HM := (HM.front 0 rfl rfl).drop
      have hR := Option.some.inj H
      subst hR
      exact at_ret1 rfl rfl ⟨_, rfl, rfl, HM⟩

def laws_markMemberS.l0  : Nat → (List Member) → Int → Int → Option ((List Member) × Int)
  | 0, _, _, _ => none
  | k + 1, a1604, a1606, a1607 => (bif (decide (a1607 < (a1604.length : Int))) then (chk (idxOk a1607 a1604.length) (chk (idxOk a1607 (a1604.set (a1607).toNat (⟨a1606, (gt a1604 a1607).fRef⟩ : Member)).length) (chk (idxOk a1607 ((a1604.set (a1607).toNat (⟨a1606, (gt a1604 a1607).fRef⟩ : Member)).set (a1607).toNat (⟨(gt (a1604.set (a1607).toNat (⟨a1606, (gt a1604 a1607).fRef⟩ : Member)) a1607).fKey, (⟨wrap64 (a1606 + 1), (gt (a1604.set (a1607).toNat (⟨a1606, (gt a1604 a1607).fRef⟩ : Member)) a1607).fRef.fAt⟩ : Ref)⟩ : Member)).length) (laws_markMemberS.l0 k (((a1604.set (a1607).toNat (⟨a1606, (gt a1604 a1607).fRef⟩ : Member)).set (a1607).toNat (⟨(gt (a1604.set (a1607).toNat (⟨a1606, (gt a1604 a1607).fRef⟩ : Member)) a1607).fKey, (⟨wrap64 (a1606 + 1), (gt (a1604.set (a1607).toNat (⟨a1606, (gt a1604 a1607).fRef⟩ : Member)) a1607).fRef.fAt⟩ : Ref)⟩ : Member)).set (a1607).toNat (⟨(gt ((a1604.set (a1607).toNat (⟨a1606, (gt a1604 a1607).fRef⟩ : Member)).set (a1607).toNat (⟨(gt (a1604.set (a1607).toNat (⟨a1606, (gt a1604 a1607).fRef⟩ : Member)) a1607).fKey, (⟨wrap64 (a1606 + 1), (gt (a1604.set (a1607).toNat (⟨a1606, (gt a1604 a1607).fRef⟩ : Member)) a1607).fRef.fAt⟩ : Ref)⟩ : Member)) a1607).fKey, (⟨(gt ((a1604.set (a1607).toNat (⟨a1606, (gt a1604 a1607).fRef⟩ : Member)).set (a1607).toNat (⟨(gt (a1604.set (a1607).toNat (⟨a1606, (gt a1604 a1607).fRef⟩ : Member)) a1607).fKey, (⟨wrap64 (a1606 + 1), (gt (a1604.set (a1607).toNat (⟨a1606, (gt a1604 a1607).fRef⟩ : Member)) a1607).fRef.fAt⟩ : Ref)⟩ : Member)) a1607).fRef.fTx, wrap64 ((wrap64 (a1606 + 1)) + 1)⟩ : Ref)⟩ : Member)) (wrap64 ((wrap64 ((wrap64 (a1606 + 1)) + 1)) + 1)) (wrap64 (a1607 + 1)))))) else some (a1604, a1606))
theorem laws_markMemberS.l0_z  (a1604 : List Member) (a1606 : Int) (a1607 : Int) : laws_markMemberS.l0 0 a1604 a1606 a1607 = none := rfl
theorem laws_markMemberS.l0_s  (k : Nat) (a1604 : List Member) (a1606 : Int) (a1607 : Int) : laws_markMemberS.l0 (k + 1) a1604 a1606 a1607 = (bif (decide (a1607 < (a1604.length : Int))) then (chk (idxOk a1607 a1604.length) (chk (idxOk a1607 (a1604.set (a1607).toNat (⟨a1606, (gt a1604 a1607).fRef⟩ : Member)).length) (chk (idxOk a1607 ((a1604.set (a1607).toNat (⟨a1606, (gt a1604 a1607).fRef⟩ : Member)).set (a1607).toNat (⟨(gt (a1604.set (a1607).toNat (⟨a1606, (gt a1604 a1607).fRef⟩ : Member)) a1607).fKey, (⟨wrap64 (a1606 + 1), (gt (a1604.set (a1607).toNat (⟨a1606, (gt a1604 a1607).fRef⟩ : Member)) a1607).fRef.fAt⟩ : Ref)⟩ : Member)).length) (laws_markMemberS.l0 k (((a1604.set (a1607).toNat (⟨a1606, (gt a1604 a1607).fRef⟩ : Member)).set (a1607).toNat (⟨(gt (a1604.set (a1607).toNat (⟨a1606, (gt a1604 a1607).fRef⟩ : Member)) a1607).fKey, (⟨wrap64 (a1606 + 1), (gt (a1604.set (a1607).toNat (⟨a1606, (gt a1604 a1607).fRef⟩ : Member)) a1607).fRef.fAt⟩ : Ref)⟩ : Member)).set (a1607).toNat (⟨(gt ((a1604.set (a1607).toNat (⟨a1606, (gt a1604 a1607).fRef⟩ : Member)).set (a1607).toNat (⟨(gt (a1604.set (a1607).toNat (⟨a1606, (gt a1604 a1607).fRef⟩ : Member)) a1607).fKey, (⟨wrap64 (a1606 + 1), (gt (a1604.set (a1607).toNat (⟨a1606, (gt a1604 a1607).fRef⟩ : Member)) a1607).fRef.fAt⟩ : Ref)⟩ : Member)) a1607).fKey, (⟨(gt ((a1604.set (a1607).toNat (⟨a1606, (gt a1604 a1607).fRef⟩ : Member)).set (a1607).toNat (⟨(gt (a1604.set (a1607).toNat (⟨a1606, (gt a1604 a1607).fRef⟩ : Member)) a1607).fKey, (⟨wrap64 (a1606 + 1), (gt (a1604.set (a1607).toNat (⟨a1606, (gt a1604 a1607).fRef⟩ : Member)) a1607).fRef.fAt⟩ : Ref)⟩ : Member)) a1607).fRef.fTx, wrap64 ((wrap64 (a1606 + 1)) + 1)⟩ : Ref)⟩ : Member)) (wrap64 ((wrap64 ((wrap64 (a1606 + 1)) + 1)) + 1)) (wrap64 (a1607 + 1)))))) else some (a1604, a1606)) := rfl
def laws_markMemberS.f (k : Nat) (x0 : List Member) (x1 : Int) : Option (Int × (List Member)) := ((laws_markMemberS.l0 k x0 x1 0).bind (cur2 (fun a1595 a1597 => some (a1597, a1595))))
theorem laws_markMemberS.calls {k : Nat} {x0 : List Member} {x1 : Int} {p0 : Value} {w wo : World} {X : List Nat} (hwo : Olds wo w X) (hX : Hold w [own kMember 144 p0 x0] X) (hXn : X.Nodup) (hXl : ∀ b ∈ X, b < w.heap.size)  {r : Int × (List Member)} (H : laws_markMemberS.f k x0 x1 = some r) :
    Calls Try.prog 54 ([p0, .int .i64 x1] : List Value).toArray w (fun e w_ => ∃ v, e = .returned v ∧ v = (.int .i64 r.1) ∧ Mem w X w_ [own kMember 144 p0 r.2]) := by
  have HM := Mem.startX hX hXn hXl
  refine calls_run (N := 36) Try.func54 rfl rfl rfl rfl ?_
  unfold laws_markMemberS.f at H
  refine run_seq ?_
  refine run_region rfl ?_
  refine ops_ex rfl (guard_none rfl) rfl rfl (ex_assign rfl rfl) ?_
  refine ops_nil ?_
  refine at_then ?_
  obtain ⟨o1598, ho1599, H⟩ := bind_some H
  refine run_mid (fun ρ_ w_ => ∃ a1595 : List Member, ∃ a1597 : Int, (a1595, a1597) = o1598 ∧ ρ_ = [(1, .int .i64 a1597)] ∧ Mem w X w_ [own kMember 144 p0 a1595]) ?_ ?_
  · clear H
    refine run_seq ?_
    refine run_region rfl ?_
    refine ops_ex rfl (guard_none rfl) rfl rfl (ex_assign rfl rfl) ?_
    refine ops_nil ?_
    refine at_then ?_
    refine run_block ?_
    refine run_loop (fun k_ ρ_ w_ => ∃ a1604 : List Member, ∃ a1606 : Int, ∃ a1607 : Int, laws_markMemberS.l0 k_ a1604 a1606 a1607 = some o1598 ∧ ρ_ = [(0, p0), (1, .int .i64 a1606), (5, .int .i64 a1607)] ∧ Mem w X w_ [own kMember 144 p0 a1604]) k (ρ1 := [(0, p0), (1, .int .i64 x1), (5, .int .i64 0)]) ⟨_, _, _, ho1599, rfl, HM⟩ (Sub.cons rfl (Sub.cons rfl (Sub.cons rfl Sub.nil))) ?_
    clear HM ho1599
    rintro k1612 _ w1613 ⟨a1604, a1606, a1607, ho1599, rfl, HM⟩
    obtain _ | k1612 := k1612
    · exact nomatch ((laws_markMemberS.l0_z a1604 a1606 a1607).symm.trans ho1599)
    replace ho1599 := (laws_markMemberS.l0_s k1612 a1604 a1606 a1607).symm.trans ho1599
    refine run_seq ?_
    refine run_seq ?_
    refine run_region rfl ?_
    refine ops_ex rfl (guard_none rfl) rfl rfl (ex_move rfl rfl) ?_
    refine ops_ex rfl (guard_none rfl) rfl rfl (ex_move rfl rfl) ?_
    refine ops_ex rfl (guard_none rfl) rfl rfl (ex_len (d := kMember) (xs := a1604) rfl rfl Try.underlying49 (HM.own_rd 0 rfl)) ?_
    refine ops_ex rfl (guard_none rfl) rfl rfl (ex_lss rfl rfl rfl) ?_
    refine ops_nil ?_
    refine at_then ?_
    refine run_cond (b := (decide (a1607 < (a1604.length : Int)))) rfl (fun hb1614 => ?_) (fun hb1614 => ?_)
    · replace ho1599 := cond_t hb1614 ho1599
      refine run_skip ?_
      refine at_then ?_
      refine run_seq ?_
      refine run_block ?_
      refine run_seq ?_
      obtain ⟨e1615, ho1599⟩ := chk_some ho1599
      refine run_region rfl ?_
      refine ops_ex rfl (guard_none rfl) rfl rfl (ex_move rfl rfl) ?_
      refine ops_ex rfl (guard_none rfl) rfl rfl (ex_move rfl rfl) ?_
      refine ops_ex rfl (guard_none rfl) rfl rfl (ex_move rfl rfl) ?_
      refine ops_ex rfl (guard_none rfl) rfl rfl (ex_indexAddr (d := kMember) rfl rfl rfl Try.underlying49 tsz144 (HM.own_rd 0 rfl) (idx_lo e1615) (idx_hi e1615)) ?_
      refine ops_ex rfl (guard_none rfl) rfl rfl (ex_fieldAddr (off' := so p0 + (a1607).toNat * 3) rfl rfl Try.underlying144 rfl tsz2 rfl) ?_
      refine ops_doesS rfl (guard_none rfl) rfl (does_setField (fo := 0) (vs := [(.int .i64 a1606)]) (y := (⟨a1606, (gt a1604 a1607).fRef⟩ : Member)) kMember rfl rfl rfl rfl rfl tsz2 (Ones.int Ones.nil) rfl rfl (idx_nat e1615) (fun _ _ _ h => by rw [← gt_eq (idx_nat e1615)] at h; obtain ⟨rfl, h2⟩ := h; exact ⟨rfl, h2⟩) HM) ?_
      rintro w1616 HM
      refine ops_nil ?_
      refine at_then ?_
      refine run_seq ?_
      refine run_region rfl ?_
      refine ops_ex rfl (guard_none rfl) rfl rfl (ex_move rfl rfl) ?_
      refine ops_ex rfl (guard_none rfl) rfl rfl (ex_add rfl rfl rfl) ?_
      refine ops_ex rfl (guard_none rfl) rfl rfl (ex_assign rfl rfl) ?_
      refine ops_nil ?_
      refine at_then ?_
      refine run_seq ?_
      obtain ⟨e1617, ho1599⟩ := chk_some ho1599
      refine run_region rfl ?_
      refine ops_ex rfl (guard_none rfl) rfl rfl (ex_move rfl rfl) ?_
      refine ops_ex rfl (guard_none rfl) rfl rfl (ex_move rfl rfl) ?_
      refine ops_ex rfl (guard_none rfl) rfl rfl (ex_move rfl rfl) ?_
      refine ops_ex rfl (guard_none rfl) rfl rfl (ex_indexAddr (d := kMember) rfl rfl rfl Try.underlying49 tsz144 (HM.own_rd 0 rfl) (idx_lo e1617) (idx_hi e1617)) ?_
      refine ops_ex rfl (guard_none rfl) rfl rfl (ex_fieldAddr (off' := so p0 + (a1607).toNat * 3 + 1) rfl rfl Try.underlying144 rfl tsz99 rfl) ?_
      refine ops_ex rfl (guard_none rfl) rfl rfl (ex_fieldAddr (off' := so p0 + (a1607).toNat * 3 + 1) rfl rfl Try.underlying99 rfl tsz2 rfl) ?_
      refine ops_doesS rfl (guard_none rfl) rfl (does_setField (fo := 1) (vs := [(.int .i64 (wrap64 (a1606 + 1)))]) (y := (⟨(gt (a1604.set (a1607).toNat (⟨a1606, (gt a1604 a1607).fRef⟩ : Member)) a1607).fKey, (⟨wrap64 (a1606 + 1), (gt (a1604.set (a1607).toNat (⟨a1606, (gt a1604 a1607).fRef⟩ : Member)) a1607).fRef.fAt⟩ : Ref)⟩ : Member)) kMember rfl rfl rfl rfl rfl tsz2 (Ones.int Ones.nil) rfl rfl (idx_nat e1617) (fun _ _ _ h => by rw [← gt_eq (idx_nat e1617)] at h; obtain ⟨rfl, h2⟩ := h; exact ⟨rfl, h2⟩) HM) ?_
      rintro w1618 HM
      refine ops_nil ?_
      refine at_then ?_
      refine run_seq ?_
      refine run_region rfl ?_
      refine ops_ex rfl (guard_none rfl) rfl rfl (ex_move rfl rfl) ?_
      refine ops_ex rfl (guard_none rfl) rfl rfl (ex_add rfl rfl rfl) ?_
      refine ops_ex rfl (guard_none rfl) rfl rfl (ex_assign rfl rfl) ?_
      refine ops_nil ?_
      refine at_then ?_
      refine run_seq ?_
      obtain ⟨e1619, ho1599⟩ := chk_some ho1599
      refine run_region rfl ?_
      refine ops_ex rfl (guard_none rfl) rfl rfl (ex_move rfl rfl) ?_
      refine ops_ex rfl (guard_none rfl) rfl rfl (ex_move rfl rfl) ?_
      refine ops_ex rfl (guard_none rfl) rfl rfl (ex_move rfl rfl) ?_
      refine ops_ex rfl (guard_none rfl) rfl rfl (ex_indexAddr (d := kMember) rfl rfl rfl Try.underlying49 tsz144 (HM.own_rd 0 rfl) (idx_lo e1619) (idx_hi e1619)) ?_
      refine ops_ex rfl (guard_none rfl) rfl rfl (ex_fieldAddr (off' := so p0 + (a1607).toNat * 3 + 1) rfl rfl Try.underlying144 rfl tsz99 rfl) ?_
      refine ops_ex rfl (guard_none rfl) rfl rfl (ex_fieldAddr (off' := so p0 + (a1607).toNat * 3 + 2) rfl rfl Try.underlying99 rfl tsz2 rfl) ?_
      refine ops_doesS rfl (guard_none rfl) rfl (does_setField (fo := 2) (vs := [(.int .i64 (wrap64 ((wrap64 (a1606 + 1)) + 1)))]) (y := (⟨(gt ((a1604.set (a1607).toNat (⟨a1606, (gt a1604 a1607).fRef⟩ : Member)).set (a1607).toNat (⟨(gt (a1604.set (a1607).toNat (⟨a1606, (gt a1604 a1607).fRef⟩ : Member)) a1607).fKey, (⟨wrap64 (a1606 + 1), (gt (a1604.set (a1607).toNat (⟨a1606, (gt a1604 a1607).fRef⟩ : Member)) a1607).fRef.fAt⟩ : Ref)⟩ : Member)) a1607).fKey, (⟨(gt ((a1604.set (a1607).toNat (⟨a1606, (gt a1604 a1607).fRef⟩ : Member)).set (a1607).toNat (⟨(gt (a1604.set (a1607).toNat (⟨a1606, (gt a1604 a1607).fRef⟩ : Member)) a1607).fKey, (⟨wrap64 (a1606 + 1), (gt (a1604.set (a1607).toNat (⟨a1606, (gt a1604 a1607).fRef⟩ : Member)) a1607).fRef.fAt⟩ : Ref)⟩ : Member)) a1607).fRef.fTx, wrap64 ((wrap64 (a1606 + 1)) + 1)⟩ : Ref)⟩ : Member)) kMember rfl rfl rfl rfl rfl tsz2 (Ones.int Ones.nil) rfl rfl (idx_nat e1619) (fun _ _ _ h => by rw [← gt_eq (idx_nat e1619)] at h; obtain ⟨rfl, h2⟩ := h; exact ⟨rfl, h2⟩) HM) ?_
      rintro w1620 HM
      refine ops_nil ?_
      refine at_then ?_
      refine run_region rfl ?_
      refine ops_ex rfl (guard_none rfl) rfl rfl (ex_move rfl rfl) ?_
      refine ops_ex rfl (guard_none rfl) rfl rfl (ex_add rfl rfl rfl) ?_
      refine ops_ex rfl (guard_none rfl) rfl rfl (ex_assign rfl rfl) ?_
      refine ops_nil ?_
      refine at_block ?_
      refine at_then ?_
      refine run_region rfl ?_
      refine ops_ex rfl (guard_none rfl) rfl rfl (ex_move rfl rfl) ?_
      refine ops_ex rfl (guard_none rfl) rfl rfl (ex_add rfl rfl rfl) ?_
      refine ops_ex rfl (guard_none rfl) rfl rfl (ex_assign rfl rfl) ?_
      refine ops_nil ?_
      exact at_again k1612 (ρ1 := [(0, p0), (1, .int .i64 (wrap64 ((wrap64 ((wrap64 (a1606 + 1)) + 1)) + 1))), (5, .int .i64 (wrap64 (a1607 + 1)))]) (Nat.lt_succ_self _) ⟨_, _, _, ho1599, rfl, HM⟩ (Sub.cons rfl (Sub.cons rfl (Sub.cons rfl Sub.nil)))
    · replace ho1599 := cond_f hb1614 ho1599
      refine run_exit ?_
      refine at_then_exit ?_
      refine at_then_exit ?_
      refine at_block_exit ?_
      exact at_mid (ρ' := [(1, .int .i64 a1606)]) ⟨_, _, (Option.some.inj ho1599), rfl, HM⟩ (Sub.cons rfl Sub.nil)
  · rintro _ w1621 ⟨a1595, a1597, rfl, rfl, HM⟩
    replace H := cur2_mk H
    refine run_seq ?_
    refine run_region rfl ?_
    refine ops_ex rfl (guard_none rfl) rfl rfl (ex_move rfl rfl) ?_
    refine ops_ex rfl (guard_none rfl) rfl rfl (ex_assign rfl rfl) ?_
    refine ops_nil ?_
    refine at_then ?_
    refine run_ret ?_
    have hR := Option.some.inj H
    subst hR
    exact at_ret1 rfl rfl ⟨_, rfl, rfl, HM⟩

def laws_markMembersResult.f (k : Nat) (x0 : MembersResult) (x1 : Int) : Option (Int × (List Member)) := ((laws_markMemberS.f k x0.fMembers x1).bind fun t1657 => some (t1657.1, t1657.2))
theorem laws_markMembersResult.calls {k : Nat} {x0 : MembersResult} {x1 : Int} {p0_0 : Value} {w wo : World} {X : List Nat} (hwo : Olds wo w X) (hX : Hold w [own kMember 144 p0_0 x0.fMembers] X) (hXn : X.Nodup) (hXl : ∀ b ∈ X, b < w.heap.size)  {r : Int × (List Member)} (H : laws_markMembersResult.f k x0 x1 = some r) :
    Calls Try.prog 60 ([.agg #[(.int .i64 x0.fCode), p0_0], .int .i64 x1] : List Value).toArray w (fun e w_ => ∃ v, e = .returned v ∧ v = (.int .i64 r.1) ∧ Mem w X w_ [own kMember 144 p0_0 r.2]) := by
  have HM := Mem.startX hX hXn hXl
  refine calls_run (N := 10) Try.func60 rfl rfl rfl rfl ?_
  unfold laws_markMembersResult.f at H
  refine run_seq ?_
  refine run_region rfl ?_
  refine ops_does rfl (guard_none rfl) rfl rfl (does_box (cs := [.int .i64 x0.fCode, p0_0]) rfl rfl rfl HM) ?_
  rintro _ w1656 ⟨b1653, rfl, HM⟩
  refine ops_ex rfl (guard_none rfl) rfl rfl (ex_assign rfl rfl) ?_
  refine ops_nil ?_
  refine at_then ?_
  refine run_seq ?_
  obtain ⟨t1657, h1658, H⟩ := bind_some H
  refine run_region rfl ?_
  refine ops_ex rfl (guard_none rfl) rfl rfl (ex_fieldAddr (off' := 1) rfl rfl Try.underlying85 rfl tsz49 rfl) ?_
  refine ops_ex rfl (guard_none rfl) rfl rfl (ex_load1 rfl rfl Try.underlying49 rfl ((HM.box_at 0 rfl) 1 _ rfl)) ?_
  refine ops_ex rfl (guard_none rfl) rfl rfl (ex_move rfl rfl) ?_
  replace HM := HM.front 1 rfl rfl
  obtain ⟨F1659, hF1660, hFn1661, hFl1662, HMh1663, hcl1664⟩ := HM.hide (Ms := [own kMember 144 p0_0 x0.fMembers])
  refine ops_does rfl (guard_none rfl) rfl rfl (does_callk rfl callok54 rfl (laws_markMemberS.calls (x0 := x0.fMembers) (x1 := x1) (hide_olds _ _) hF1660 hFn1661 hFl1662 h1658)) ?_
  rintro _ w1665 ⟨rfl, hn⟩
  replace HM : Mem w X w1665 [own kMember 144 p0_0 t1657.2, box b1653 85 [.int .i64 x0.fCode, p0_0]] := hcl1664 _ _ hn
  refine ops_ex rfl (guard_none rfl) rfl rfl (ex_assign rfl rfl) ?_
  refine ops_nil ?_
  refine at_then ?_
  refine run_seq ?_
  refine run_region rfl ?_
  refine ops_ex rfl (guard_none rfl) rfl rfl (ex_move rfl rfl) ?_
  refine ops_ex rfl (guard_none rfl) rfl rfl (ex_assign rfl rfl) ?_
  refine ops_nil ?_
  refine at_then ?_
  refine run_ret ?_
  replace HM := (HM.front 1 rfl rfl).drop
  have hR := Option.some.inj H
  subst hR
  exact at_ret1 rfl rfl ⟨_, rfl, rfl, HM⟩

def laws_heldMemberS.l0 (x0 : List Member) : Nat → Int → Int → Option (Int ⊕ Int)
  | 0, _, _ => none
  | k + 1, a1799, a1800 => (bif (decide (a1800 < (x0.length : Int))) then (chk (idxOk a1800 x0.length) (bif (((gt x0 a1800).fKey) != a1799) then some (.inl (-1)) else (chk (idxOk a1800 x0.length) (bif (((gt x0 a1800).fRef.fTx) != (wrap64 (a1799 + 1))) then some (.inl (-1)) else (chk (idxOk a1800 x0.length) (bif (((gt x0 a1800).fRef.fAt) != (wrap64 ((wrap64 (a1799 + 1)) + 1))) then some (.inl (-1)) else laws_heldMemberS.l0 x0 k (wrap64 ((wrap64 ((wrap64 (a1799 + 1)) + 1)) + 1)) (wrap64 (a1800 + 1)))))))) else some (.inr a1799))
theorem laws_heldMemberS.l0_z (x0 : List Member) (a1799 : Int) (a1800 : Int) : laws_heldMemberS.l0 x0 0 a1799 a1800 = none := rfl
theorem laws_heldMemberS.l0_s (x0 : List Member) (k : Nat) (a1799 : Int) (a1800 : Int) : laws_heldMemberS.l0 x0 (k + 1) a1799 a1800 = (bif (decide (a1800 < (x0.length : Int))) then (chk (idxOk a1800 x0.length) (bif (((gt x0 a1800).fKey) != a1799) then some (.inl (-1)) else (chk (idxOk a1800 x0.length) (bif (((gt x0 a1800).fRef.fTx) != (wrap64 (a1799 + 1))) then some (.inl (-1)) else (chk (idxOk a1800 x0.length) (bif (((gt x0 a1800).fRef.fAt) != (wrap64 ((wrap64 (a1799 + 1)) + 1))) then some (.inl (-1)) else laws_heldMemberS.l0 x0 k (wrap64 ((wrap64 ((wrap64 (a1799 + 1)) + 1)) + 1)) (wrap64 (a1800 + 1)))))))) else some (.inr a1799)) := rfl
def laws_heldMemberS.f (k : Nat) (x0 : List Member) (x1 : Int) : Option Int := ((laws_heldMemberS.l0 x0 k x1 0).bind fun o1781 => thn o1781 (fun r => some r) (fun a1780 => some a1780))
theorem laws_heldMemberS.calls {k : Nat} {x0 : List Member} {x1 : Int} {p0 : Value} {w : World} (hp0 : RdS kMember w p0 x0) {r : Int} (H : laws_heldMemberS.f k x0 x1 = some r) :
    Calls Try.prog 119 ([p0, .int .i64 x1] : List Value).toArray w (fun e w_ => ∃ v, e = .returned v ∧ v = (.int .i64 r) ∧ Mem w [] w_ []) := by
  have HM := Mem.start w
  refine calls_run (N := 42) Try.func119 rfl rfl rfl rfl ?_
  unfold laws_heldMemberS.f at H
  refine run_seq ?_
  refine run_region rfl ?_
  refine ops_ex rfl (guard_none rfl) rfl rfl (ex_assign rfl rfl) ?_
  refine ops_nil ?_
  refine at_then ?_
  obtain ⟨o1781, ho1782, H⟩ := bind_some H
  refine run_mid (fun ρ_ w_ => ∃ a1780 : Int, Sum.inr a1780 = o1781 ∧ ρ_ = [(1, .int .i64 a1780)] ∧ Mem w [] w_ []) ?_ ?_
  · skip
    refine run_seq ?_
    refine run_region rfl ?_
    refine ops_ex rfl (guard_none rfl) rfl rfl (ex_assign rfl rfl) ?_
    refine ops_nil ?_
    refine at_then ?_
    refine run_block ?_
    refine run_loop (fun k_ ρ_ w_ => ∃ a1799 : Int, ∃ a1800 : Int, laws_heldMemberS.l0 x0 k_ a1799 a1800 = some o1781 ∧ ρ_ = [(0, p0), (1, .int .i64 a1799), (5, .int .i64 a1800)] ∧ Mem w [] w_ []) k (ρ1 := [(0, p0), (1, .int .i64 x1), (5, .int .i64 0)]) ⟨_, _, ho1782, rfl, HM⟩ (Sub.cons rfl (Sub.cons rfl (Sub.cons rfl Sub.nil))) ?_
    clear HM ho1782
    rintro k1817 _ w1818 ⟨a1799, a1800, ho1782, rfl, HM⟩
    obtain _ | k1817 := k1817
    · exact nomatch ((laws_heldMemberS.l0_z x0 a1799 a1800).symm.trans ho1782)
    replace ho1782 := (laws_heldMemberS.l0_s x0 k1817 a1799 a1800).symm.trans ho1782
    refine run_seq ?_
    refine run_seq ?_
    refine run_region rfl ?_
    refine ops_ex rfl (guard_none rfl) rfl rfl (ex_move rfl rfl) ?_
    refine ops_ex rfl (guard_none rfl) rfl rfl (ex_move rfl rfl) ?_
    refine ops_ex rfl (guard_none rfl) rfl rfl (ex_len (d := kMember) (xs := x0) rfl rfl Try.underlying49 hp0) ?_
    refine ops_ex rfl (guard_none rfl) rfl rfl (ex_lss rfl rfl rfl) ?_
    refine ops_nil ?_
    refine at_then ?_
    refine run_cond (b := (decide (a1800 < (x0.length : Int)))) rfl (fun hb1819 => ?_) (fun hb1819 => ?_)
    · replace ho1782 := cond_t hb1819 ho1782
      refine run_skip ?_
      refine at_then ?_
      refine run_seq ?_
      refine run_block ?_
      refine run_seq ?_
      refine run_seq ?_
      obtain ⟨e1823, ho1782⟩ := chk_some ho1782
      refine run_region rfl ?_
      refine ops_ex rfl (guard_none rfl) rfl rfl (ex_move rfl rfl) ?_
      refine ops_ex rfl (guard_none rfl) rfl rfl (ex_move rfl rfl) ?_
      have hc1824 : CellsAt _ (sb p0) (so p0 + (a1800).toNat * 3) [(.int .i64 ((gt x0 a1800).fKey)), (.int .i64 ((gt x0 a1800).fRef.fTx)), (.int .i64 ((gt x0 a1800).fRef.fAt))] := rd_plain hp0 e1823
      refine ops_ex rfl (guard_none rfl) rfl rfl (ex_indexAddr (d := kMember) rfl rfl rfl Try.underlying49 tsz144 hp0 (idx_lo e1823) (idx_hi e1823)) ?_
      refine ops_ex rfl (guard_none rfl) rfl rfl (ex_fieldAddr (off' := so p0 + (a1800).toNat * 3) rfl rfl Try.underlying144 rfl tsz2 rfl) ?_
      refine ops_ex rfl (guard_none rfl) rfl rfl (ex_load1 rfl rfl Try.underlying2 rfl ((HM.at_ hc1824) 0 _ rfl)) ?_
      refine ops_ex rfl (guard_none rfl) rfl rfl (ex_move rfl rfl) ?_
      refine ops_ex rfl (guard_none rfl) rfl rfl (ex_neq rfl rfl rfl) ?_
      refine ops_nil ?_
      refine at_then ?_
      refine run_cond (b := (((gt x0 a1800).fKey) != a1799)) rfl (fun hb1825 => ?_) (fun hb1825 => ?_)
      · replace ho1782 := cond_t hb1825 ho1782
        refine run_seq ?_
        refine run_region rfl ?_
        refine ops_ex rfl (guard_none rfl) rfl rfl (ex_assign rfl rfl) ?_
        refine ops_nil ?_
        refine at_then ?_
        refine run_ret ?_
        refine at_then_ret ?_
        refine at_block_ret ?_
        refine at_then_ret ?_
        refine at_then_ret ?_
        refine at_block_ret ?_
        refine at_then_ret ?_
        have hR := Option.some.inj ho1782
        subst hR
        have hT := thn_inl H
        have hR := Option.some.inj hT
        subst hR
        exact at_ret1 rfl rfl ⟨_, rfl, rfl, HM⟩
      · replace ho1782 := cond_f hb1825 ho1782
        refine run_skip ?_
        refine at_then ?_
        refine run_seq ?_
        refine run_region rfl ?_
        refine ops_ex rfl (guard_none rfl) rfl rfl (ex_move rfl rfl) ?_
        refine ops_ex rfl (guard_none rfl) rfl rfl (ex_add rfl rfl rfl) ?_
        refine ops_ex rfl (guard_none rfl) rfl rfl (ex_assign rfl rfl) ?_
        refine ops_nil ?_
        refine at_then ?_
        refine run_seq ?_
        refine run_seq ?_
        obtain ⟨e1829, ho1782⟩ := chk_some ho1782
        refine run_region rfl ?_
        refine ops_ex rfl (guard_none rfl) rfl rfl (ex_move rfl rfl) ?_
        refine ops_ex rfl (guard_none rfl) rfl rfl (ex_move rfl rfl) ?_
        have hc1830 : CellsAt _ (sb p0) (so p0 + (a1800).toNat * 3) [(.int .i64 ((gt x0 a1800).fKey)), (.int .i64 ((gt x0 a1800).fRef.fTx)), (.int .i64 ((gt x0 a1800).fRef.fAt))] := rd_plain hp0 e1829
        refine ops_ex rfl (guard_none rfl) rfl rfl (ex_indexAddr (d := kMember) rfl rfl rfl Try.underlying49 tsz144 hp0 (idx_lo e1829) (idx_hi e1829)) ?_
        refine ops_ex rfl (guard_none rfl) rfl rfl (ex_fieldAddr (off' := so p0 + (a1800).toNat * 3 + 1) rfl rfl Try.underlying144 rfl tsz99 rfl) ?_
        refine ops_ex rfl (guard_none rfl) rfl rfl (ex_fieldAddr (off' := so p0 + (a1800).toNat * 3 + 1) rfl rfl Try.underlying99 rfl tsz2 rfl) ?_
        refine ops_ex rfl (guard_none rfl) rfl rfl (ex_load1 rfl rfl Try.underlying2 rfl ((HM.at_ hc1830) 1 _ rfl)) ?_
        refine ops_ex rfl (guard_none rfl) rfl rfl (ex_move rfl rfl) ?_
        refine ops_ex rfl (guard_none rfl) rfl rfl (ex_neq rfl rfl rfl) ?_
        refine ops_nil ?_
        refine at_then ?_
        refine run_cond (b := (((gt x0 a1800).fRef.fTx) != (wrap64 (a1799 + 1)))) rfl (fun hb1831 => ?_) (fun hb1831 => ?_)
        · replace ho1782 := cond_t hb1831 ho1782
          refine run_seq ?_
          refine run_region rfl ?_
          refine ops_ex rfl (guard_none rfl) rfl rfl (ex_assign rfl rfl) ?_
          refine ops_nil ?_
          refine at_then ?_
          refine run_ret ?_
          refine at_then_ret ?_
          refine at_block_ret ?_
          refine at_then_ret ?_
          refine at_then_ret ?_
          refine at_block_ret ?_
          refine at_then_ret ?_
          have hR := Option.some.inj ho1782
          subst hR
          have hT := thn_inl H
          have hR := Option.some.inj hT
          subst hR
          exact at_ret1 rfl rfl ⟨_, rfl, rfl, HM⟩
        · replace ho1782 := cond_f hb1831 ho1782
          refine run_skip ?_
          refine at_then ?_
          refine run_seq ?_
          refine run_region rfl ?_
          refine ops_ex rfl (guard_none rfl) rfl rfl (ex_move rfl rfl) ?_
          refine ops_ex rfl (guard_none rfl) rfl rfl (ex_add rfl rfl rfl) ?_
          refine ops_ex rfl (guard_none rfl) rfl rfl (ex_assign rfl rfl) ?_
          refine ops_nil ?_
          refine at_then ?_
          refine run_seq ?_
          refine run_seq ?_
          obtain ⟨e1832, ho1782⟩ := chk_some ho1782
          refine run_region rfl ?_
          refine ops_ex rfl (guard_none rfl) rfl rfl (ex_move rfl rfl) ?_
          refine ops_ex rfl (guard_none rfl) rfl rfl (ex_move rfl rfl) ?_
          have hc1833 : CellsAt _ (sb p0) (so p0 + (a1800).toNat * 3) [(.int .i64 ((gt x0 a1800).fKey)), (.int .i64 ((gt x0 a1800).fRef.fTx)), (.int .i64 ((gt x0 a1800).fRef.fAt))] := rd_plain hp0 e1832
          refine ops_ex rfl (guard_none rfl) rfl rfl (ex_indexAddr (d := kMember) rfl rfl rfl Try.underlying49 tsz144 hp0 (idx_lo e1832) (idx_hi e1832)) ?_
          refine ops_ex rfl (guard_none rfl) rfl rfl (ex_fieldAddr (off' := so p0 + (a1800).toNat * 3 + 1) rfl rfl Try.underlying144 rfl tsz99 rfl) ?_
          refine ops_ex rfl (guard_none rfl) rfl rfl (ex_fieldAddr (off' := so p0 + (a1800).toNat * 3 + 2) rfl rfl Try.underlying99 rfl tsz2 rfl) ?_
          refine ops_ex rfl (guard_none rfl) rfl rfl (ex_load1 rfl rfl Try.underlying2 rfl ((HM.at_ hc1833) 2 _ rfl)) ?_
          refine ops_ex rfl (guard_none rfl) rfl rfl (ex_move rfl rfl) ?_
          refine ops_ex rfl (guard_none rfl) rfl rfl (ex_neq rfl rfl rfl) ?_
          refine ops_nil ?_
          refine at_then ?_
          refine run_cond (b := (((gt x0 a1800).fRef.fAt) != (wrap64 ((wrap64 (a1799 + 1)) + 1)))) rfl (fun hb1834 => ?_) (fun hb1834 => ?_)
          · replace ho1782 := cond_t hb1834 ho1782
            refine run_seq ?_
            refine run_region rfl ?_
            refine ops_ex rfl (guard_none rfl) rfl rfl (ex_assign rfl rfl) ?_
            refine ops_nil ?_
            refine at_then ?_
            refine run_ret ?_
            refine at_then_ret ?_
            refine at_block_ret ?_
            refine at_then_ret ?_
            refine at_then_ret ?_
            refine at_block_ret ?_
            refine at_then_ret ?_
            have hR := Option.some.inj ho1782
            subst hR
            have hT := thn_inl H
            have hR := Option.some.inj hT
            subst hR
            exact at_ret1 rfl rfl ⟨_, rfl, rfl, HM⟩
          · replace ho1782 := cond_f hb1834 ho1782
            refine run_skip ?_
            refine at_then ?_
            refine run_region rfl ?_
            refine ops_ex rfl (guard_none rfl) rfl rfl (ex_move rfl rfl) ?_
            refine ops_ex rfl (guard_none rfl) rfl rfl (ex_add rfl rfl rfl) ?_
            refine ops_ex rfl (guard_none rfl) rfl rfl (ex_assign rfl rfl) ?_
            refine ops_nil ?_
            refine at_block ?_
            refine at_then ?_
            refine run_region rfl ?_
            refine ops_ex rfl (guard_none rfl) rfl rfl (ex_move rfl rfl) ?_
            refine ops_ex rfl (guard_none rfl) rfl rfl (ex_add rfl rfl rfl) ?_
            refine ops_ex rfl (guard_none rfl) rfl rfl (ex_assign rfl rfl) ?_
            refine ops_nil ?_
            exact at_again k1817 (ρ1 := [(0, p0), (1, .int .i64 (wrap64 ((wrap64 ((wrap64 (a1799 + 1)) + 1)) + 1))), (5, .int .i64 (wrap64 (a1800 + 1)))]) (Nat.lt_succ_self _) ⟨_, _, ho1782, rfl, HM⟩ (Sub.cons rfl (Sub.cons rfl (Sub.cons rfl Sub.nil)))
    · replace ho1782 := cond_f hb1819 ho1782
      refine run_exit ?_
      refine at_then_exit ?_
      refine at_then_exit ?_
      refine at_block_exit ?_
      exact at_mid (ρ' := [(1, .int .i64 a1799)]) ⟨_, (Option.some.inj ho1782), rfl, HM⟩ (Sub.cons rfl Sub.nil)
  · rintro _ w1835 ⟨a1780, rfl, rfl, HM⟩
    replace H := (thn_inr H)
    refine run_seq ?_
    refine run_region rfl ?_
    refine ops_ex rfl (guard_none rfl) rfl rfl (ex_move rfl rfl) ?_
    refine ops_ex rfl (guard_none rfl) rfl rfl (ex_assign rfl rfl) ?_
    refine ops_nil ?_
    refine at_then ?_
    refine run_ret ?_
    have hR := Option.some.inj H
    subst hR
    exact at_ret1 rfl rfl ⟨_, rfl, rfl, HM⟩

def laws_heldMembersResult.f (k : Nat) (x0 : MembersResult) (x1 : Int) : Option Int := ((laws_heldMemberS.f k x0.fMembers x1).bind fun t1843 => (bif (decide (t1843 < 0)) then some (-1) else some t1843))
theorem laws_heldMembersResult.calls {k : Nat} {x0 : MembersResult} {x1 : Int} {p0_0 : Value} {w : World} (hp0_0 : RdS kMember w p0_0 x0.fMembers) {r : Int} (H : laws_heldMembersResult.f k x0 x1 = some r) :
    Calls Try.prog 61 ([.agg #[(.int .i64 x0.fCode), p0_0], .int .i64 x1] : List Value).toArray w (fun e w_ => ∃ v, e = .returned v ∧ v = (.int .i64 r) ∧ Mem w [] w_ []) := by
  have HM := Mem.start w
  refine calls_run (N := 12) Try.func61 rfl rfl rfl rfl ?_
  unfold laws_heldMembersResult.f at H
  refine run_seq ?_
  refine run_region rfl ?_
  refine ops_does rfl (guard_none rfl) rfl rfl (does_box (cs := [.int .i64 x0.fCode, p0_0]) rfl rfl rfl HM) ?_
  rintro _ w1842 ⟨b1839, rfl, HM⟩
  refine ops_ex rfl (guard_none rfl) rfl rfl (ex_assign rfl rfl) ?_
  refine ops_nil ?_
  refine at_then ?_
  refine run_seq ?_
  obtain ⟨t1843, h1844, H⟩ := bind_some H
  refine run_region rfl ?_
  refine ops_ex rfl (guard_none rfl) rfl rfl (ex_fieldAddr (off' := 1) rfl rfl Try.underlying85 rfl tsz49 rfl) ?_
  refine ops_ex rfl (guard_none rfl) rfl rfl (ex_load1 rfl rfl Try.underlying49 rfl ((HM.box_at 0 rfl) 1 _ rfl)) ?_
  refine ops_ex rfl (guard_none rfl) rfl rfl (ex_move rfl rfl) ?_
  refine ops_does rfl (guard_none rfl) rfl rfl (does_callk rfl callok119 rfl (laws_heldMemberS.calls (x0 := x0.fMembers) (x1 := x1) (HM.rd hp0_0) h1844)) ?_
  rintro _ w1845 ⟨rfl, hn⟩
  replace HM : Mem w [] w1845 [box b1839 85 [.int .i64 x0.fCode, p0_0]] := HM.call hn
  refine ops_ex rfl (guard_none rfl) rfl rfl (ex_assign rfl rfl) ?_
  refine ops_nil ?_
  refine at_then ?_
  refine run_seq ?_
  refine run_seq ?_
  refine run_region rfl ?_
  refine ops_ex rfl (guard_none rfl) rfl rfl (ex_move rfl rfl) ?_
  refine ops_ex rfl (guard_none rfl) rfl rfl (ex_lss rfl rfl rfl) ?_
  refine ops_nil ?_
  refine at_then ?_
  refine run_cond (b := (decide (t1843 < 0))) rfl (fun hb1846 => ?_) (fun hb1846 => ?_)
  · replace H := cond_t hb1846 H
    refine run_seq ?_
    refine run_region rfl ?_
    refine ops_ex rfl (guard_none rfl) rfl rfl (ex_assign rfl rfl) ?_
    refine ops_nil ?_
    refine at_then ?_
    refine run_ret ?_
    refine at_then_ret ?_
    replace HM := (HM.front 0 rfl rfl).drop
    have hR := Option.some.inj H
    subst hR
    exact at_ret1 rfl rfl ⟨_, rfl, rfl, HM⟩
  · replace H := cond_f hb1846 H
    refine run_skip ?_
    refine at_then ?_
    refine run_seq ?_
    refine run_region rfl ?_
    refine ops_ex rfl (guard_none rfl) rfl rfl (ex_move rfl rfl) ?_
    refine ops_ex rfl (guard_none rfl) rfl rfl (ex_assign rfl rfl) ?_
    refine ops_nil ?_
    refine at_then ?_
    refine run_ret ?_
    replace HM := (HM.front 0 rfl rfl).drop
    have hR := Option.some.inj H
    subst hR
    exact at_ret1 rfl rfl ⟨_, rfl, rfl, HM⟩
end Go.Proofs.Ytoiacoiccpiciaa.Zk
