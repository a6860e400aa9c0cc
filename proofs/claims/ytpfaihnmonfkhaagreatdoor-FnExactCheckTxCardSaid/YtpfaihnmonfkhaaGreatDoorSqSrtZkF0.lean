/- What functions of the program compute, each as a plain function, and that they do. Conditions: as each theorem states them. -/
import Derived.Test.YtpfaihnmonfkhaaGreatDoorSqSrtZkTy
namespace Go.Proofs.YtpfaihnmonfkhaaGreatDoorSq.Zk
open Go Go.RowKit Go.IntWalk Go.Proofs
set_option linter.unusedVariables false
set_option linter.unusedSimpArgs false
set_option maxRecDepth 100000
set_option maxHeartbeats 4000000
def cmp_isNaN_int64.f (k : Nat) (x0 : Int) : Option Bool := some (x0 != x0)
theorem cmp_isNaN_int64.calls {k : Nat} {x0 : Int}  {w : World}  {r : Bool} (H : cmp_isNaN_int64.f k x0 = some r) :
    Calls Tryz.prog 112 ([.int .i64 x0] : List Value).toArray w (fun e w_ => ∃ v, e = .returned v ∧ v = (.bool r) ∧ Mem w [] w_ []) := by
  have HM := Mem.start w
  refine calls_run (N := 6) Tryz.func112 rfl rfl rfl rfl ?_
  unfold cmp_isNaN_int64.f at H
  refine run_seq ?_
  refine run_region rfl ?_
  refine ox rfl rfl rfl rfl (ex_assign rfl rfl) ?_
  refine ops_nil (at_then (run_seq ?_))
  refine run_region rfl ?_
  refine ox rfl rfl rfl rfl (ex_move rfl rfl) ?_
  refine ox rfl rfl rfl rfl (ex_move rfl rfl) ?_
  refine ox rfl rfl rfl rfl (ex_neq rfl rfl rfl) ?_
  refine ox rfl rfl rfl rfl (ex_assign rfl rfl) ?_
  refine ops_nil (at_then ?_)
  refine run_ret ?_
  have hR := Option.some.inj H
  subst hR
  exact at_ret1 rfl rfl ⟨_, rfl, rfl, HM⟩

def cmp_Compare_int64.f (k : Nat) (x0 : Int) (x1 : Int) : Option Int := ((cmp_isNaN_int64.f k x0).bind fun t26 => ((cmp_isNaN_int64.f k x1).bind fun t29 => (bif t26 then (bif t29 then some 0 else some (-1)) else (bif t29 then some 1 else (bif (decide (x0 < x1)) then some (-1) else (bif (decide (x1 < x0)) then some 1 else some 0))))))
theorem cmp_Compare_int64.calls {k : Nat} {x0 : Int} {x1 : Int}  {w : World}  {r : Int} (H : cmp_Compare_int64.f k x0 x1 = some r) :
    Calls Tryz.prog 97 ([.int .i64 x0, .int .i64 x1] : List Value).toArray w (fun e w_ => ∃ v, e = .returned v ∧ v = (.int .i64 r) ∧ Mem w [] w_ []) := by
  have HM := Mem.start w
  refine calls_run (N := 20) Tryz.func97 rfl rfl rfl rfl ?_
  unfold cmp_Compare_int64.f at H
  refine run_seq ?_
  refine run_region rfl ?_
  refine ox rfl rfl rfl rfl (ex_assign rfl rfl) ?_
  refine ops_nil (at_then (run_seq ?_))
  obtain ⟨t26, h27, H⟩ := bind_some H
  refine run_region rfl ?_
  refine ox rfl rfl rfl rfl (ex_move rfl rfl) ?_
  refine od rfl rfl rfl rfl (does_callk rfl callok112 rfl (cmp_isNaN_int64.calls (x0 := x0) h27)) ?_
  rintro _ w28 ⟨rfl, hn⟩
  replace HM : Mem w [] w28 [] := HM.call hn
  refine ox rfl rfl rfl rfl (ex_assign rfl rfl) ?_
  refine ops_nil (at_then (run_seq ?_))
  obtain ⟨t29, h30, H⟩ := bind_some H
  refine run_region rfl ?_
  refine ox rfl rfl rfl rfl (ex_move rfl rfl) ?_
  refine od rfl rfl rfl rfl (does_callk rfl callok112 rfl (cmp_isNaN_int64.calls (x0 := x1) h30)) ?_
  rintro _ w31 ⟨rfl, hn⟩
  replace HM : Mem w [] w31 [] := HM.call hn
  refine ox rfl rfl rfl rfl (ex_assign rfl rfl) ?_
  refine ops_nil (at_then (run_seq ?_))
  refine run_seq ?_
  refine run_region rfl ?_
  refine ox rfl rfl rfl rfl (ex_move rfl rfl) ?_
  refine ops_nil (at_then ?_)
  refine run_cond (b := t26) rfl (fun hb34 => ?_) (fun hb34 => ?_)
  · replace H := cond_t hb34 H
    refine run_seq ?_
    refine run_seq ?_
    refine run_region rfl ?_
    refine ox rfl rfl rfl rfl (ex_move rfl rfl) ?_
    refine ops_nil (at_then ?_)
    refine run_cond (b := t29) rfl (fun hb35 => ?_) (fun hb35 => ?_)
    · replace H := cond_t hb35 H
      refine run_seq ?_
      refine run_region rfl ?_
      refine ox rfl rfl rfl rfl (ex_assign rfl rfl) ?_
      refine ops_nil (at_then ?_)
      refine run_ret ?_
      refine at_then_ret ?_
      refine at_then_ret ?_
      have hR := Option.some.inj H
      subst hR
      exact at_ret1 rfl rfl ⟨_, rfl, rfl, HM⟩
    · replace H := cond_f hb35 H
      refine run_skip ?_
      refine at_then ?_
      refine run_seq ?_
      refine run_region rfl ?_
      refine ox rfl rfl rfl rfl (ex_assign rfl rfl) ?_
      refine ops_nil (at_then ?_)
      refine run_ret ?_
      refine at_then_ret ?_
      have hR := Option.some.inj H
      subst hR
      exact at_ret1 rfl rfl ⟨_, rfl, rfl, HM⟩
  · replace H := cond_f hb34 H
    refine run_skip ?_
    refine at_then ?_
    refine run_seq ?_
    refine run_seq ?_
    refine run_region rfl ?_
    refine ox rfl rfl rfl rfl (ex_move rfl rfl) ?_
    refine ops_nil (at_then ?_)
    refine run_cond (b := t29) rfl (fun hb37 => ?_) (fun hb37 => ?_)
    · replace H := cond_t hb37 H
      refine run_seq ?_
      refine run_region rfl ?_
      refine ox rfl rfl rfl rfl (ex_assign rfl rfl) ?_
      refine ops_nil (at_then ?_)
      refine run_ret ?_
      refine at_then_ret ?_
      have hR := Option.some.inj H
      subst hR
      exact at_ret1 rfl rfl ⟨_, rfl, rfl, HM⟩
    · replace H := cond_f hb37 H
      refine run_skip ?_
      refine at_then ?_
      refine run_seq ?_
      refine run_seq ?_
      refine run_region rfl ?_
      refine ox rfl rfl rfl rfl (ex_move rfl rfl) ?_
      refine ox rfl rfl rfl rfl (ex_move rfl rfl) ?_
      refine ox rfl rfl rfl rfl (ex_lss rfl rfl rfl) ?_
      refine ops_nil (at_then ?_)
      refine run_cond (b := (decide (x0 < x1))) rfl (fun hb39 => ?_) (fun hb39 => ?_)
      · replace H := cond_t hb39 H
        refine run_seq ?_
        refine run_region rfl ?_
        refine ox rfl rfl rfl rfl (ex_assign rfl rfl) ?_
        refine ops_nil (at_then ?_)
        refine run_ret ?_
        refine at_then_ret ?_
        have hR := Option.some.inj H
        subst hR
        exact at_ret1 rfl rfl ⟨_, rfl, rfl, HM⟩
      · replace H := cond_f hb39 H
        refine run_skip ?_
        refine at_then ?_
        refine run_seq ?_
        refine run_seq ?_
        refine run_region rfl ?_
        refine ox rfl rfl rfl rfl (ex_move rfl rfl) ?_
        refine ox rfl rfl rfl rfl (ex_move rfl rfl) ?_
        refine ox rfl rfl rfl rfl (ex_gtr rfl rfl rfl) ?_
        refine ops_nil (at_then ?_)
        refine run_cond (b := (decide (x1 < x0))) rfl (fun hb40 => ?_) (fun hb40 => ?_)
        · replace H := cond_t hb40 H
          refine run_seq ?_
          refine run_region rfl ?_
          refine ox rfl rfl rfl rfl (ex_assign rfl rfl) ?_
          refine ops_nil (at_then ?_)
          refine run_ret ?_
          refine at_then_ret ?_
          have hR := Option.some.inj H
          subst hR
          exact at_ret1 rfl rfl ⟨_, rfl, rfl, HM⟩
        · replace H := cond_f hb40 H
          refine run_skip ?_
          refine at_then ?_
          refine run_seq ?_
          refine run_region rfl ?_
          refine ox rfl rfl rfl rfl (ex_assign rfl rfl) ?_
          refine ops_nil (at_then ?_)
          refine run_ret ?_
          have hR := Option.some.inj H
          subst hR
          exact at_ret1 rfl rfl ⟨_, rfl, rfl, HM⟩

def cmp_Or_int.l0 (x0 : List Int) : Nat → Int → Option (Int ⊕ Unit)
  | 0, _ => none
  | k + 1, a82 => (bif (decide (a82 < (x0.length : Int))) then (chk (idxOk a82 x0.length) (bif ((gt x0 a82) != 0) then some (.inl (gt x0 a82)) else cmp_Or_int.l0 x0 k (wrap64 (a82 + 1)))) else some (.inr ()))
theorem cmp_Or_int.l0_z (x0 : List Int) (a82 : Int) : cmp_Or_int.l0 x0 0 a82 = none := rfl
theorem cmp_Or_int.l0_s (x0 : List Int) (k : Nat) (a82 : Int) : cmp_Or_int.l0 x0 (k + 1) a82 = (bif (decide (a82 < (x0.length : Int))) then (chk (idxOk a82 x0.length) (bif ((gt x0 a82) != 0) then some (.inl (gt x0 a82)) else cmp_Or_int.l0 x0 k (wrap64 (a82 + 1)))) else some (.inr ())) := rfl
def cmp_Or_int.f (k : Nat) (x0 : List Int) : Option Int := ((cmp_Or_int.l0 x0 k 0).bind fun o76 => thn o76 (fun r => some r) (fun _ => some 0))
theorem cmp_Or_int.calls {k : Nat} {x0 : List Int} {p0 : Value} {w : World} (hp0 : RdS kInt w p0 x0) {r : Int} (H : cmp_Or_int.f k x0 = some r) :
    Calls Tryz.prog 96 ([p0] : List Value).toArray w (fun e w_ => ∃ v, e = .returned v ∧ v = (.int .i64 r) ∧ Mem w [] w_ []) := by
  have HM := Mem.start w
  refine calls_run (N := 18) Tryz.func96 rfl rfl rfl rfl ?_
  unfold cmp_Or_int.f at H
  refine run_seq ?_
  refine run_region rfl ?_
  refine ox rfl rfl rfl rfl (ex_assign rfl rfl) ?_
  refine ops_nil (at_then (run_seq ?_))
  refine run_region rfl ?_
  refine ox rfl rfl rfl rfl (ex_assign rfl rfl) ?_
  refine ops_nil (at_then ?_)
  obtain ⟨o76, ho77, H⟩ := bind_some H
  refine run_mid (fun ρ_ w_ => Sum.inr () = o76 ∧ ρ_ = [(3, .int .i64 0)] ∧ Mem w [] w_ []) ?_ ?_
  · skip
    refine run_seq ?_
    refine run_region rfl ?_
    refine ox rfl rfl rfl rfl (ex_move rfl rfl) ?_
    refine ox rfl rfl rfl rfl (ex_len (d := kInt) (xs := x0) rfl rfl Tryz.underlying160 hp0) ?_
    refine ox rfl rfl rfl rfl (ex_move rfl rfl) ?_
    refine ops_nil (at_then ?_)
    refine run_block ?_
    refine run_loop (fun k_ ρ_ w_ => ∃ a82 : Int, cmp_Or_int.l0 x0 k_ a82 = some o76 ∧ ρ_ = [(3, .int .i64 0), (6, p0), (7, .int .i64 (x0.length : Int)), (8, .int .i64 a82)] ∧ Mem w [] w_ []) k (ρ1 := [(3, .int .i64 0), (6, p0), (7, .int .i64 (x0.length : Int)), (8, .int .i64 0)]) ⟨_, ho77, rfl, HM⟩ (Sub.cons rfl (Sub.cons rfl (Sub.cons rfl (Sub.cons rfl Sub.nil)))) ?_
    clear HM ho77
    rintro k87 _ w88 ⟨a82, ho77, rfl, HM⟩
    obtain _ | k87 := k87
    · exact nomatch ((cmp_Or_int.l0_z x0 a82).symm.trans ho77)
    replace ho77 := (cmp_Or_int.l0_s x0 k87 a82).symm.trans ho77
    refine run_seq ?_
    refine run_region rfl ?_
    refine ox rfl rfl rfl rfl (ex_lss rfl rfl rfl) ?_
    refine ops_nil (at_then (run_seq ?_))
    refine run_cond (b := (decide (a82 < (x0.length : Int)))) rfl (fun hb89 => ?_) (fun hb89 => ?_)
    · replace ho77 := cond_t hb89 ho77
      refine run_skip ?_
      refine at_then ?_
      refine run_seq ?_
      refine run_block ?_
      refine run_seq ?_
      obtain ⟨e90, ho77⟩ := chk_some ho77
      refine run_region rfl ?_
      have hc91 : CellsAt _ (sb p0) (so p0 + (a82).toNat * 1) [(.int .i64 (gt x0 a82))] := rd_plain hp0 e90
      refine ox rfl rfl rfl rfl (ex_indexAddr (d := kInt) rfl rfl rfl Tryz.underlying160 tsz3 hp0 (idx_lo e90) (idx_hi e90)) ?_
      refine ox rfl rfl rfl rfl (ex_load1 rfl rfl Tryz.underlying3 rfl ((HM.at_ hc91) 0 _ rfl)) ?_
      refine ox rfl rfl rfl rfl (ex_assign rfl rfl) ?_
      refine ops_nil (at_then (run_seq ?_))
      refine run_region rfl ?_
      refine ox rfl rfl rfl rfl (ex_move rfl rfl) ?_
      refine ox rfl rfl rfl rfl (ex_move rfl rfl) ?_
      refine ox rfl rfl rfl rfl (ex_neq rfl rfl rfl) ?_
      refine ops_nil (at_then ?_)
      refine run_cond (b := ((gt x0 a82) != 0)) rfl (fun hb92 => ?_) (fun hb92 => ?_)
      · replace ho77 := cond_t hb92 ho77
        refine run_seq ?_
        refine run_region rfl ?_
        refine ox rfl rfl rfl rfl (ex_move rfl rfl) ?_
        refine ox rfl rfl rfl rfl (ex_assign rfl rfl) ?_
        refine ops_nil (at_then ?_)
        refine run_ret ?_
        refine at_block_ret ?_
        refine at_then_ret ?_
        refine at_then_ret ?_
        refine at_block_ret ?_
        refine at_then_ret ?_
        have hR := Option.some.inj ho77
        subst hR
        have hT := thn_inl H
        have hR := Option.some.inj hT
        subst hR
        exact at_ret1 rfl rfl ⟨_, rfl, rfl, HM⟩
      · replace ho77 := cond_f hb92 ho77
        refine run_skip ?_
        refine at_block ?_
        refine at_then ?_
        refine run_region rfl ?_
        refine ox rfl rfl rfl rfl (ex_add rfl rfl rfl) ?_
        refine ox rfl rfl rfl rfl (ex_move rfl rfl) ?_
        refine ops_nil ?_
        exact at_again k87 (ρ1 := [(3, .int .i64 0), (6, p0), (7, .int .i64 (x0.length : Int)), (8, .int .i64 (wrap64 (a82 + 1)))]) (Nat.lt_succ_self _) ⟨_, ho77, rfl, HM⟩ (Sub.cons rfl (Sub.cons rfl (Sub.cons rfl (Sub.cons rfl Sub.nil))))
    · replace ho77 := cond_f hb89 ho77
      refine run_exit ?_
      refine at_then_exit ?_
      refine at_then_exit ?_
      refine at_block_exit ?_
      exact at_mid (ρ' := [(3, .int .i64 0)]) ⟨(Option.some.inj ho77), rfl, HM⟩ (Sub.cons rfl Sub.nil)
  · rintro _ w93 ⟨rfl, rfl, HM⟩
    replace H := (thn_inr H)
    refine run_seq ?_
    refine run_region rfl ?_
    refine ox rfl rfl rfl rfl (ex_move rfl rfl) ?_
    refine ox rfl rfl rfl rfl (ex_assign rfl rfl) ?_
    refine ops_nil (at_then ?_)
    refine run_ret ?_
    have hR := Option.some.inj H
    subst hR
    exact at_ret1 rfl rfl ⟨_, rfl, rfl, HM⟩

def impl_compareRefs.f (k : Nat) (x0 : Ref) (x1 : Ref) : Option Int := ((cmp_Compare_int64.f k x0.fTx x1.fTx).bind fun t104 => ((cmp_Compare_int64.f k x0.fAt x1.fAt).bind fun t106 => ((cmp_Or_int.f k ([t104, t106] : List Int)).bind fun t111 => some t111)))
theorem impl_compareRefs.calls {k : Nat} {x0 : Ref} {x1 : Ref}  {w : World}  {r : Int} (H : impl_compareRefs.f k x0 x1 = some r) :
    Calls Tryz.prog 69 ([.agg #[(.int .i64 x0.fTx), (.int .i64 x0.fAt)], .agg #[(.int .i64 x1.fTx), (.int .i64 x1.fAt)]] : List Value).toArray w (fun e w_ => ∃ v, e = .returned v ∧ v = (.int .i64 r) ∧ Mem w [] w_ []) := by
  have HM := Mem.start w
  refine calls_run (N := 17) Tryz.func69 rfl rfl rfl rfl ?_
  unfold impl_compareRefs.f at H
  refine run_seq ?_
  refine run_region rfl ?_
  refine od rfl rfl rfl rfl (does_box (cs := [.int .i64 x0.fTx, .int .i64 x0.fAt]) rfl rfl rfl HM) ?_
  rintro _ w102 ⟨b96, rfl, HM⟩
  refine od rfl rfl rfl rfl (does_box (cs := [.int .i64 x1.fTx, .int .i64 x1.fAt]) rfl rfl rfl HM) ?_
  rintro _ w103 ⟨b99, rfl, HM⟩
  refine ox rfl rfl rfl rfl (ex_assign rfl rfl) ?_
  refine ops_nil (at_then (run_seq ?_))
  obtain ⟨t104, h105, H⟩ := bind_some H
  obtain ⟨t106, h107, H⟩ := bind_some H
  obtain ⟨t111, h112, H⟩ := bind_some H
  refine run_drawf (fun w_ => Mem w [] w_ [box b99 81 [.int .i64 x1.fTx, .int .i64 x1.fAt], box b96 81 [.int .i64 x0.fTx, .int .i64 x0.fAt]]) [(0, true), (1, true), (2, true), (3, true), (5, true), (6, true), (7, true), (8, true), (4, false), (9, false), (10, false), (11, false), (12, true)] mixed rfl rfl (by kernel_rfl) ?_
  replace HM := HM.grow (fr_drew _)
  have hS := Mem.suf (M := []) HM
  refine dp rfl rfl rfl rfl (ex_fieldAddr (off' := 0) rfl rfl Tryz.underlying81 rfl tsz2 rfl) hS ?_
  refine drwp_take rfl (guard_none rfl) rfl rfl (fun w_ hS_ => (ex_load1 rfl rfl Tryz.underlying2 rfl ((hS_.box_at 1 rfl) 0 _ rfl))) hS ?_
  refine dp rfl rfl rfl rfl (ex_fieldAddr (off' := 0) rfl rfl Tryz.underlying81 rfl tsz2 rfl) hS ?_
  refine drwp_take rfl (guard_none rfl) rfl rfl (fun w_ hS_ => (ex_load1 rfl rfl Tryz.underlying2 rfl ((hS_.box_at 0 rfl) 0 _ rfl))) hS ?_
  refine dp rfl rfl rfl rfl (ex_fieldAddr (off' := 1) rfl rfl Tryz.underlying81 rfl tsz2 rfl) hS ?_
  refine drwp_take rfl (guard_none rfl) rfl rfl (fun w_ hS_ => (ex_load1 rfl rfl Tryz.underlying2 rfl ((hS_.box_at 1 rfl) 1 _ rfl))) hS ?_
  refine dp rfl rfl rfl rfl (ex_fieldAddr (off' := 1) rfl rfl Tryz.underlying81 rfl tsz2 rfl) hS ?_
  refine drwp_take rfl (guard_none rfl) rfl rfl (fun w_ hS_ => (ex_load1 rfl rfl Tryz.underlying2 rfl ((hS_.box_at 0 rfl) 1 _ rfl))) hS ?_
  refine drwp_one rfl (guard_none rfl) rfl rfl (does_callk rfl callok97 rfl (cmp_Compare_int64.calls (x0 := x0.fTx) (x1 := x1.fTx) h105)) ?_
  rintro _ w113 ⟨rfl, hn⟩
  replace HM : Mem w [] w113 [box b99 81 [.int .i64 x1.fTx, .int .i64 x1.fAt], box b96 81 [.int .i64 x0.fTx, .int .i64 x0.fAt]] := HM.call hn
  have hS := Mem.suf (M := []) HM
  refine ⟨hS, ?_⟩
  refine drwp_one rfl (guard_none rfl) rfl rfl (does_callk rfl callok97 rfl (cmp_Compare_int64.calls (x0 := x0.fAt) (x1 := x1.fAt) h107)) ?_
  rintro _ w114 ⟨rfl, hn⟩
  replace HM : Mem w [] w114 [box b99 81 [.int .i64 x1.fTx, .int .i64 x1.fAt], box b96 81 [.int .i64 x0.fTx, .int .i64 x0.fAt]] := HM.call hn
  have hS := Mem.suf (M := []) HM
  refine ⟨hS, ?_⟩
  refine drwp_one rfl (guard_none rfl) rfl rfl (does_lit (e := 3) (cs := [.int .i64 t104, .int .i64 t106]) (xs := ([t104, t106] : List Int)) kInt rfl rfl (fun _ => by kernel_rfl) rfl rfl (fun _ _ h => by have h' : _ = [] := h; subst h'; exact (Elems.cons (d := kInt) (x := t104) (f := []) ⟨rfl, rfl⟩ (Elems.cons (d := kInt) (x := t106) (f := []) ⟨rfl, rfl⟩ .nil))) HM.emp) ?_
  rintro v108 w115 HM
  have hS := Mem.suf (M := [own kInt 3 v108 ([t104, t106] : List Int)]) HM
  refine ⟨hS, ?_⟩
  refine drwp_one rfl (guard_none rfl) rfl rfl (does_callk rfl callok96 rfl (cmp_Or_int.calls (x0 := ([t104, t106] : List Int)) (HM.own_rd 0 rfl) h112)) ?_
  rintro _ w116 ⟨rfl, hn⟩
  replace HM : Mem w [] w116 [own kInt 3 v108 ([t104, t106] : List Int), box b99 81 [.int .i64 x1.fTx, .int .i64 x1.fAt], box b96 81 [.int .i64 x0.fTx, .int .i64 x0.fAt]] := HM.call hn
  have hS := Mem.suf (M := [own kInt 3 v108 ([t104, t106] : List Int)]) HM
  refine ⟨hS, ?_⟩
  refine dp rfl rfl rfl rfl (ex_assign rfl rfl) hS ?_
  refine drwp_done ?_
  refine at_then ?_
  refine run_ret ?_
  replace HM := (HM.front 0 rfl rfl).drop
  replace HM := (HM.front 0 rfl rfl).drop
  replace HM := (HM.front 0 rfl rfl).drop
  have hR := Option.some.inj H
  subst hR
  exact at_ret1 rfl rfl ⟨_, rfl, rfl, HM⟩

def impl_sorted_1.f (k : Nat) (x0 : Coin) (x1 : Coin) : Option Int := ((impl_compareRefs.f k x0.fRef x1.fRef).bind fun t127 => some t127)
theorem impl_sorted_1.calls {k : Nat} {x0 : Coin} {x1 : Coin} {p0_0 : Value} {p1_0 : Value} {w : World} (hp0_0 : IsSl p0_0) (hp1_0 : IsSl p1_0) {r : Int} (H : impl_sorted_1.f k x0 x1 = some r) :
    Calls Tryz.prog 121 ([.agg #[(.int .i64 x0.fRef.fTx), (.int .i64 x0.fRef.fAt), (.int .i64 x0.fOut.fValue), p0_0, (.int .i64 x0.fOut.fRule.fNeed), (.int .i64 x0.fOut.fRule.fAfter), (.int .i64 x0.fHeight), (.bool x0.fMined)], .agg #[(.int .i64 x1.fRef.fTx), (.int .i64 x1.fRef.fAt), (.int .i64 x1.fOut.fValue), p1_0, (.int .i64 x1.fOut.fRule.fNeed), (.int .i64 x1.fOut.fRule.fAfter), (.int .i64 x1.fHeight), (.bool x1.fMined)]] : List Value).toArray w (fun e w_ => ∃ v, e = .returned v ∧ v = (.int .i64 r) ∧ Mem w [] w_ []) := by
  have HM := Mem.start w
  refine calls_run (N := 10) Tryz.func121 rfl rfl rfl rfl ?_
  unfold impl_sorted_1.f at H
  refine run_seq ?_
  refine run_region rfl ?_
  refine od rfl rfl rfl rfl (does_box (cs := [.int .i64 x0.fRef.fTx, .int .i64 x0.fRef.fAt, .int .i64 x0.fOut.fValue, p0_0, .int .i64 x0.fOut.fRule.fNeed, .int .i64 x0.fOut.fRule.fAfter, .int .i64 x0.fHeight, .bool x0.fMined]) rfl rfl rfl HM) ?_
  rintro _ w125 ⟨b119, rfl, HM⟩
  refine od rfl rfl rfl rfl (does_box (cs := [.int .i64 x1.fRef.fTx, .int .i64 x1.fRef.fAt, .int .i64 x1.fOut.fValue, p1_0, .int .i64 x1.fOut.fRule.fNeed, .int .i64 x1.fOut.fRule.fAfter, .int .i64 x1.fHeight, .bool x1.fMined]) rfl rfl rfl HM) ?_
  rintro _ w126 ⟨b122, rfl, HM⟩
  refine ox rfl rfl rfl rfl (ex_assign rfl rfl) ?_
  refine ops_nil (at_then (run_seq ?_))
  obtain ⟨t127, h128, H⟩ := bind_some H
  refine run_region rfl ?_
  refine ox rfl rfl rfl rfl (ex_fieldAddr (off' := 0) rfl rfl Tryz.underlying86 rfl tsz81 rfl) ?_
  refine ox rfl rfl rfl rfl (ex_loadN (cs := [(.int .i64 x0.fRef.fTx), (.int .i64 x0.fRef.fAt)]) rfl rfl Tryz.underlying81 rfl tsz81 rfl ((HM.box_at 1 rfl).sub 0 2 rfl)) ?_
  refine ox rfl rfl rfl rfl (ex_fieldAddr (off' := 0) rfl rfl Tryz.underlying86 rfl tsz81 rfl) ?_
  refine ox rfl rfl rfl rfl (ex_loadN (cs := [(.int .i64 x1.fRef.fTx), (.int .i64 x1.fRef.fAt)]) rfl rfl Tryz.underlying81 rfl tsz81 rfl ((HM.box_at 0 rfl).sub 0 2 rfl)) ?_
  refine od rfl rfl rfl rfl (does_callk rfl callok69 rfl (impl_compareRefs.calls (x0 := x0.fRef) (x1 := x1.fRef) h128)) ?_
  rintro _ w129 ⟨rfl, hn⟩
  replace HM : Mem w [] w129 [box b122 86 [.int .i64 x1.fRef.fTx, .int .i64 x1.fRef.fAt, .int .i64 x1.fOut.fValue, p1_0, .int .i64 x1.fOut.fRule.fNeed, .int .i64 x1.fOut.fRule.fAfter, .int .i64 x1.fHeight, .bool x1.fMined], box b119 86 [.int .i64 x0.fRef.fTx, .int .i64 x0.fRef.fAt, .int .i64 x0.fOut.fValue, p0_0, .int .i64 x0.fOut.fRule.fNeed, .int .i64 x0.fOut.fRule.fAfter, .int .i64 x0.fHeight, .bool x0.fMined]] := HM.call hn
  refine ox rfl rfl rfl rfl (ex_assign rfl rfl) ?_
  refine ops_nil (at_then ?_)
  refine run_ret ?_
  replace HM := (HM.front 0 rfl rfl).drop
  replace HM := (HM.front 0 rfl rfl).drop
  have hR := Option.some.inj H
  subst hR
  exact at_ret1 rfl rfl ⟨_, rfl, rfl, HM⟩
def srtI (x y : Int) : Int := bif decide (x < y) then -1 else bif decide (y < x) then 1 else 0
def srtC (a b : Ref) : Int := bif srtI a.fTx b.fTx != 0 then srtI a.fTx b.fTx else srtI a.fAt b.fAt
theorem srtI_run (x y : Int) : cmp_Compare_int64.f 3 x y = some (srtI x y) := by
  have e : ∀ z : Int, (z != z) = false := fun z => by simp
  unfold cmp_Compare_int64.f cmp_isNaN_int64.f srtI
  simp only [Option.bind_some, e, cond_false]
  cases decide (x < y) <;> cases decide (y < x) <;> rfl
theorem srtO_run (p q : Int) : cmp_Or_int.f 3 [p, q] = some (bif p != 0 then p else q) := by
  have e0 : gt [p, q] (0 : Int) = p := rfl
  have e1 : gt [p, q] (1 : Int) = q := rfl
  have w0 : wrap64 ((0 : Int) + 1) = 1 := by rw [wrap64_in _ (by omega)]; rfl
  have w1 : wrap64 ((1 : Int) + 1) = 2 := by rw [wrap64_in _ (by omega)]; rfl
  have c0 : decide ((0 : Int) < (([p, q] : List Int).length : Int)) = true := rfl
  have c1 : decide ((1 : Int) < (([p, q] : List Int).length : Int)) = true := rfl
  have c2 : decide ((2 : Int) < (([p, q] : List Int).length : Int)) = false := rfl
  have k0 : idxOk (0 : Int) ([p, q] : List Int).length = true := rfl
  have k1 : idxOk (1 : Int) ([p, q] : List Int).length = true := rfl
  unfold cmp_Or_int.f
  rw [cmp_Or_int.l0_s, c0, cond_true, k0, e0, w0]
  unfold chk
  simp only [cond_true]
  cases hp : p != 0
  · rw [cond_false, cmp_Or_int.l0_s, c1, cond_true, k1, e1, w1]
    unfold chk
    simp only [cond_true, cond_false]
    cases hq : q != 0
    · rw [cond_false, cmp_Or_int.l0_s, c2]
      have : q = 0 := by simpa using hq
      subst this; rfl
    · rfl
  · rfl
theorem srt_run (a b : Coin) : impl_sorted_1.f 3 a b = some (srtC a.fRef b.fRef) := by
  unfold impl_sorted_1.f impl_compareRefs.f
  simp only [srtI_run, Option.bind_some, srtO_run]
  rfl
theorem cmp_grow (W : World) (x y : Coin) {u v : Value} (hu : IsSl u) (hv : IsSl v) : Calls Tryz.prog 121 #[.agg #[.int .i64 x.fRef.fTx, .int .i64 x.fRef.fAt, .int .i64 x.fOut.fValue, u, .int .i64 x.fOut.fRule.fNeed, .int .i64 x.fOut.fRule.fAfter, .int .i64 x.fHeight, .bool x.fMined], .agg #[.int .i64 y.fRef.fTx, .int .i64 y.fRef.fAt, .int .i64 y.fOut.fValue, v, .int .i64 y.fOut.fRule.fNeed, .int .i64 y.fOut.fRule.fAfter, .int .i64 y.fHeight, .bool y.fMined]] W (fun e w' => e = .returned (.int .i64 (srtC x.fRef y.fRef)) ∧ ∃ q os', w' = Go.Sort.grow (W.drewN q) os') :=
  (impl_sorted_1.calls (w := W) (p0_0 := u) (p1_0 := v) hu hv (srt_run x y)).mono fun e w' ⟨w_, he, hv, hm⟩ => ⟨by rw [he, hv], fr_grow trivial hm.fr⟩
end Go.Proofs.YtpfaihnmonfkhaaGreatDoorSq.Zk
