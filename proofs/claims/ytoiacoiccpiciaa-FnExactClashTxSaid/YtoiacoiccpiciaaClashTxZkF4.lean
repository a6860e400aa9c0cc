/- What functions of the program compute, each as a plain function, and that they do. Conditions: as each theorem states them. -/
import Derived.Test.YtoiacoiccpiciaaClashTxZkF3
namespace Go.Proofs.Ytoiacoiccpiciaa.Zk
open Go Go.RowKit Go.IntWalk Go.Proofs
set_option linter.unusedVariables false
set_option linter.unusedSimpArgs false
set_option maxRecDepth 100000
set_option maxHeartbeats 4000000
def laws_eqRef.f (k : Nat) (x0 : Ref) (x1 : Ref) : Option Bool := (bif (x0.fTx != x1.fTx) then some false else (bif (x0.fAt != x1.fAt) then some false else some true))
theorem laws_eqRef.calls {k : Nat} {x0 : Ref} {x1 : Ref}  {w : World}  {r : Bool} (H : laws_eqRef.f k x0 x1 = some r) :
    Calls Try.prog 124 ([.agg #[(.int .i64 x0.fTx), (.int .i64 x0.fAt)], .agg #[(.int .i64 x1.fTx), (.int .i64 x1.fAt)]] : List Value).toArray w (fun e w_ => ∃ v, e = .returned v ∧ v = (.bool r) ∧ Mem w [] w_ []) := by
  have HM := Mem.start w
  refine calls_run (N := 15) Try.func124 rfl rfl rfl rfl ?_
  unfold laws_eqRef.f at H
  refine run_seq ?_
  refine run_region rfl ?_
  refine ops_does rfl (guard_none rfl) rfl rfl (does_box (cs := [.int .i64 x0.fTx, .int .i64 x0.fAt]) rfl rfl rfl HM) ?_
  rintro _ w2317 ⟨b2311, rfl, HM⟩
  refine ops_does rfl (guard_none rfl) rfl rfl (does_box (cs := [.int .i64 x1.fTx, .int .i64 x1.fAt]) rfl rfl rfl HM) ?_
  rintro _ w2318 ⟨b2314, rfl, HM⟩
  refine ops_ex rfl (guard_none rfl) rfl rfl (ex_assign rfl rfl) ?_
  refine ops_nil ?_
  refine at_then ?_
  refine run_seq ?_
  refine run_seq ?_
  refine run_region rfl ?_
  refine ops_ex rfl (guard_none rfl) rfl rfl (ex_fieldAddr (off' := 0) rfl rfl Try.underlying99 rfl tsz2 rfl) ?_
  refine ops_ex rfl (guard_none rfl) rfl rfl (ex_load1 rfl rfl Try.underlying2 rfl ((HM.box_at 1 rfl) 0 _ rfl)) ?_
  refine ops_ex rfl (guard_none rfl) rfl rfl (ex_fieldAddr (off' := 0) rfl rfl Try.underlying99 rfl tsz2 rfl) ?_
  refine ops_ex rfl (guard_none rfl) rfl rfl (ex_load1 rfl rfl Try.underlying2 rfl ((HM.box_at 0 rfl) 0 _ rfl)) ?_
  refine ops_ex rfl (guard_none rfl) rfl rfl (ex_neq rfl rfl rfl) ?_
  refine ops_nil ?_
  refine at_then ?_
  refine run_cond (b := (x0.fTx != x1.fTx)) rfl (fun hb2320 => ?_) (fun hb2320 => ?_)
  · replace H := cond_t hb2320 H
    refine run_seq ?_
    refine run_region rfl ?_
    refine ops_ex rfl (guard_none rfl) rfl rfl (ex_assign rfl rfl) ?_
    refine ops_nil ?_
    refine at_then ?_
    refine run_ret ?_
    refine at_then_ret ?_
    replace HM := (HM.front 0 rfl rfl).drop
    replace HM := (HM.front 0 rfl rfl).drop
    have hR := Option.some.inj H
    subst hR
    exact at_ret1 rfl rfl ⟨_, rfl, rfl, HM⟩
  · replace H := cond_f hb2320 H
    refine run_skip ?_
    refine at_then ?_
    refine run_seq ?_
    refine run_seq ?_
    refine run_region rfl ?_
    refine ops_ex rfl (guard_none rfl) rfl rfl (ex_fieldAddr (off' := 1) rfl rfl Try.underlying99 rfl tsz2 rfl) ?_
    refine ops_ex rfl (guard_none rfl) rfl rfl (ex_load1 rfl rfl Try.underlying2 rfl ((HM.box_at 1 rfl) 1 _ rfl)) ?_
    refine ops_ex rfl (guard_none rfl) rfl rfl (ex_fieldAddr (off' := 1) rfl rfl Try.underlying99 rfl tsz2 rfl) ?_
    refine ops_ex rfl (guard_none rfl) rfl rfl (ex_load1 rfl rfl Try.underlying2 rfl ((HM.box_at 0 rfl) 1 _ rfl)) ?_
    refine ops_ex rfl (guard_none rfl) rfl rfl (ex_neq rfl rfl rfl) ?_
    refine ops_nil ?_
    refine at_then ?_
    refine run_cond (b := (x0.fAt != x1.fAt)) rfl (fun hb2321 => ?_) (fun hb2321 => ?_)
    · replace H := cond_t hb2321 H
      refine run_seq ?_
      refine run_region rfl ?_
      refine ops_ex rfl (guard_none rfl) rfl rfl (ex_assign rfl rfl) ?_
      refine ops_nil ?_
      refine at_then ?_
      refine run_ret ?_
      refine at_then_ret ?_
      replace HM := (HM.front 0 rfl rfl).drop
      replace HM := (HM.front 0 rfl rfl).drop
      have hR := Option.some.inj H
      subst hR
      exact at_ret1 rfl rfl ⟨_, rfl, rfl, HM⟩
    · replace H := cond_f hb2321 H
      refine run_skip ?_
      refine at_then ?_
      refine run_seq ?_
      refine run_region rfl ?_
      refine ops_ex rfl (guard_none rfl) rfl rfl (ex_assign rfl rfl) ?_
      refine ops_nil ?_
      refine at_then ?_
      refine run_ret ?_
      replace HM := (HM.front 0 rfl rfl).drop
      replace HM := (HM.front 0 rfl rfl).drop
      have hR := Option.some.inj H
      subst hR
      exact at_ret1 rfl rfl ⟨_, rfl, rfl, HM⟩

def laws_eqRefS.l0 (x0 : List Ref) (x1 : List Ref) : Nat → Int → Option (Bool ⊕ Unit)
  | 0, _ => none
  | k + 1, a2381 => (bif (decide (a2381 < (x0.length : Int))) then (chk (idxOk a2381 x0.length) (chk (idxOk a2381 x1.length) ((laws_eqRef.f k (gt x0 a2381) (gt x1 a2381)).bind fun t2397 => (bif !t2397 then some (.inl false) else laws_eqRefS.l0 x0 x1 k (wrap64 (a2381 + 1)))))) else some (.inr ()))
theorem laws_eqRefS.l0_z (x0 : List Ref) (x1 : List Ref) (a2381 : Int) : laws_eqRefS.l0 x0 x1 0 a2381 = none := rfl
theorem laws_eqRefS.l0_s (x0 : List Ref) (x1 : List Ref) (k : Nat) (a2381 : Int) : laws_eqRefS.l0 x0 x1 (k + 1) a2381 = (bif (decide (a2381 < (x0.length : Int))) then (chk (idxOk a2381 x0.length) (chk (idxOk a2381 x1.length) ((laws_eqRef.f k (gt x0 a2381) (gt x1 a2381)).bind fun t2397 => (bif !t2397 then some (.inl false) else laws_eqRefS.l0 x0 x1 k (wrap64 (a2381 + 1)))))) else some (.inr ())) := rfl
def laws_eqRefS.f (k : Nat) (x0 : List Ref) (x1 : List Ref) : Option Bool := (bif ((x0.length : Int) != (x1.length : Int)) then some false else ((laws_eqRefS.l0 x0 x1 k 0).bind fun o2371 => thn o2371 (fun r => some r) (fun _ => some true)))
theorem laws_eqRefS.calls {k : Nat} {x0 : List Ref} {x1 : List Ref} {p0 : Value} {p1 : Value} {w : World} (hp0 : RdS kRef w p0 x0) (hp1 : RdS kRef w p1 x1) {r : Bool} (H : laws_eqRefS.f k x0 x1 = some r) :
    Calls Try.prog 76 ([p0, p1] : List Value).toArray w (fun e w_ => ∃ v, e = .returned v ∧ v = (.bool r) ∧ Mem w [] w_ []) := by
  have HM := Mem.start w
  refine calls_run (N := 27) Try.func76 rfl rfl rfl rfl ?_
  unfold laws_eqRefS.f at H
  refine run_seq ?_
  refine run_region rfl ?_
  refine ops_ex rfl (guard_none rfl) rfl rfl (ex_assign rfl rfl) ?_
  refine ops_nil ?_
  refine at_then ?_
  refine run_seq ?_
  refine run_seq ?_
  refine run_region rfl ?_
  refine ops_ex rfl (guard_none rfl) rfl rfl (ex_move rfl rfl) ?_
  refine ops_ex rfl (guard_none rfl) rfl rfl (ex_len (d := kRef) (xs := x0) rfl rfl Try.underlying34 hp0) ?_
  refine ops_ex rfl (guard_none rfl) rfl rfl (ex_move rfl rfl) ?_
  refine ops_ex rfl (guard_none rfl) rfl rfl (ex_len (d := kRef) (xs := x1) rfl rfl Try.underlying34 hp1) ?_
  refine ops_ex rfl (guard_none rfl) rfl rfl (ex_neq rfl rfl rfl) ?_
  refine ops_nil ?_
  refine at_then ?_
  refine run_cond (b := ((x0.length : Int) != (x1.length : Int))) rfl (fun hb2345 => ?_) (fun hb2345 => ?_)
  · replace H := cond_t hb2345 H
    refine run_seq ?_
    refine run_region rfl ?_
    refine ops_ex rfl (guard_none rfl) rfl rfl (ex_assign rfl rfl) ?_
    refine ops_nil ?_
    refine at_then ?_
    refine run_ret ?_
    refine at_then_ret ?_
    have hR := Option.some.inj H
    subst hR
    exact at_ret1 rfl rfl ⟨_, rfl, rfl, HM⟩
  · replace H := cond_f hb2345 H
    refine run_skip ?_
    refine at_then ?_
    obtain ⟨o2371, ho2372, H⟩ := bind_some H
    refine run_mid (fun ρ_ w_ => Sum.inr () = o2371 ∧ ρ_ = [] ∧ Mem w [] w_ []) ?_ ?_
    · skip
      refine run_seq ?_
      refine run_region rfl ?_
      refine ops_ex rfl (guard_none rfl) rfl rfl (ex_assign rfl rfl) ?_
      refine ops_nil ?_
      refine at_then ?_
      refine run_block ?_
      refine run_loop (fun k_ ρ_ w_ => ∃ a2381 : Int, laws_eqRefS.l0 x0 x1 k_ a2381 = some o2371 ∧ ρ_ = [(0, p0), (1, p1), (5, .int .i64 a2381)] ∧ Mem w [] w_ []) k (ρ1 := [(0, p0), (1, p1), (5, .int .i64 0)]) ⟨_, ho2372, rfl, HM⟩ (Sub.cons rfl (Sub.cons rfl (Sub.cons rfl Sub.nil))) ?_
      clear HM ho2372
      rintro k2390 _ w2391 ⟨a2381, ho2372, rfl, HM⟩
      obtain _ | k2390 := k2390
      · exact nomatch ((laws_eqRefS.l0_z x0 x1 a2381).symm.trans ho2372)
      replace ho2372 := (laws_eqRefS.l0_s x0 x1 k2390 a2381).symm.trans ho2372
      refine run_seq ?_
      refine run_seq ?_
      refine run_region rfl ?_
      refine ops_ex rfl (guard_none rfl) rfl rfl (ex_move rfl rfl) ?_
      refine ops_ex rfl (guard_none rfl) rfl rfl (ex_move rfl rfl) ?_
      refine ops_ex rfl (guard_none rfl) rfl rfl (ex_len (d := kRef) (xs := x0) rfl rfl Try.underlying34 hp0) ?_
      refine ops_ex rfl (guard_none rfl) rfl rfl (ex_lss rfl rfl rfl) ?_
      refine ops_nil ?_
      refine at_then ?_
      refine run_cond (b := (decide (a2381 < (x0.length : Int)))) rfl (fun hb2392 => ?_) (fun hb2392 => ?_)
      · replace ho2372 := cond_t hb2392 ho2372
        refine run_skip ?_
        refine at_then ?_
        refine run_seq ?_
        refine run_block ?_
        refine run_seq ?_
        obtain ⟨e2393, ho2372⟩ := chk_some ho2372
        obtain ⟨e2395, ho2372⟩ := chk_some ho2372
        obtain ⟨t2397, h2398, ho2372⟩ := bind_some ho2372
        refine run_drawf (fun w_ => Mem w [] w_ []) [(0, true), (1, true), (2, true), (3, true), (4, true), (5, true), (6, true), (7, true), (8, false), (9, true)] mixed rfl rfl (by kernel_rfl) ?_
        replace HM := HM.grow (fr_drew _)
        have hS := Mem.suf (M := []) HM
        refine drwp_take rfl (guard_none rfl) rfl rfl (fun w_ hS_ => (ex_move rfl rfl)) hS ?_
        refine drwp_take rfl (guard_none rfl) rfl rfl (fun w_ hS_ => (ex_move rfl rfl)) hS ?_
        have hc2394 : CellsAt _ (sb p0) (so p0 + (a2381).toNat * 2) [(.int .i64 ((gt x0 a2381).fTx)), (.int .i64 ((gt x0 a2381).fAt))] := rd_plain hp0 e2393
        refine drwp_take rfl (guard_none rfl) rfl rfl (fun w_ hS_ => (ex_indexAddr (d := kRef) rfl rfl rfl Try.underlying34 tsz99 hp0 (idx_lo e2393) (idx_hi e2393))) hS ?_
        refine drwp_take rfl (guard_none rfl) rfl rfl (fun w_ hS_ => (ex_loadN (cs := [(.int .i64 ((gt x0 a2381).fTx)), (.int .i64 ((gt x0 a2381).fAt))]) rfl rfl Try.underlying99 rfl tsz99 rfl ((hS_.at_ hc2394).sub 0 2 rfl))) hS ?_
        refine drwp_take rfl (guard_none rfl) rfl rfl (fun w_ hS_ => (ex_move rfl rfl)) hS ?_
        refine drwp_take rfl (guard_none rfl) rfl rfl (fun w_ hS_ => (ex_move rfl rfl)) hS ?_
        have hc2396 : CellsAt _ (sb p1) (so p1 + (a2381).toNat * 2) [(.int .i64 ((gt x1 a2381).fTx)), (.int .i64 ((gt x1 a2381).fAt))] := rd_plain hp1 e2395
        refine drwp_take rfl (guard_none rfl) rfl rfl (fun w_ hS_ => (ex_indexAddr (d := kRef) rfl rfl rfl Try.underlying34 tsz99 hp1 (idx_lo e2395) (idx_hi e2395))) hS ?_
        refine drwp_take rfl (guard_none rfl) rfl rfl (fun w_ hS_ => (ex_loadN (cs := [(.int .i64 ((gt x1 a2381).fTx)), (.int .i64 ((gt x1 a2381).fAt))]) rfl rfl Try.underlying99 rfl tsz99 rfl ((hS_.at_ hc2396).sub 0 2 rfl))) hS ?_
        refine drwp_one rfl (guard_none rfl) rfl rfl (does_callk rfl callok124 rfl (laws_eqRef.calls (x0 := (gt x0 a2381)) (x1 := (gt x1 a2381)) h2398)) ?_
        rintro _ w2399 ⟨rfl, hn⟩
        replace HM : Mem w [] w2399 [] := HM.call hn
        refine ⟨Mem.suf (M := []) HM, ?_⟩
        have hS := Mem.suf (M := []) HM
        refine drwp_take rfl (guard_none rfl) rfl rfl (fun w_ hS_ => (ex_not rfl rfl)) hS ?_
        refine drwp_done ?_
        refine at_then ?_
        refine run_cond (b := !t2397) rfl (fun hb2400 => ?_) (fun hb2400 => ?_)
        · replace ho2372 := cond_t hb2400 ho2372
          refine run_seq ?_
          refine run_region rfl ?_
          refine ops_ex rfl (guard_none rfl) rfl rfl (ex_assign rfl rfl) ?_
          refine ops_nil ?_
          refine at_then ?_
          refine run_ret ?_
          refine at_block_ret ?_
          refine at_then_ret ?_
          refine at_then_ret ?_
          refine at_block_ret ?_
          refine at_then_ret ?_
          have hR := Option.some.inj ho2372
          subst hR
          have hT := thn_inl H
          have hR := Option.some.inj hT
          subst hR
          exact at_ret1 rfl rfl ⟨_, rfl, rfl, HM⟩
        · replace ho2372 := cond_f hb2400 ho2372
          refine run_skip ?_
          refine at_block ?_
          refine at_then ?_
          refine run_region rfl ?_
          refine ops_ex rfl (guard_none rfl) rfl rfl (ex_move rfl rfl) ?_
          refine ops_ex rfl (guard_none rfl) rfl rfl (ex_add rfl rfl rfl) ?_
          refine ops_ex rfl (guard_none rfl) rfl rfl (ex_assign rfl rfl) ?_
          refine ops_nil ?_
          exact at_again k2390 (ρ1 := [(0, p0), (1, p1), (5, .int .i64 (wrap64 (a2381 + 1)))]) (Nat.lt_succ_self _) ⟨_, ho2372, rfl, HM⟩ (Sub.cons rfl (Sub.cons rfl (Sub.cons rfl Sub.nil)))
      · replace ho2372 := cond_f hb2392 ho2372
        refine run_exit ?_
        refine at_then_exit ?_
        refine at_then_exit ?_
        refine at_block_exit ?_
        exact at_mid (ρ' := []) ⟨(Option.some.inj ho2372), rfl, HM⟩ Sub.nil
    · rintro _ w2401 ⟨rfl, rfl, HM⟩
      replace H := (thn_inr H)
      refine run_seq ?_
      refine run_region rfl ?_
      refine ops_ex rfl (guard_none rfl) rfl rfl (ex_assign rfl rfl) ?_
      refine ops_nil ?_
      refine at_then ?_
      refine run_ret ?_
      have hR := Option.some.inj H
      subst hR
      exact at_ret1 rfl rfl ⟨_, rfl, rfl, HM⟩

def laws_eqInt64S.l0 (x0 : List Int) (x1 : List Int) : Nat → Int → Option (Bool ⊕ Unit)
  | 0, _ => none
  | k + 1, a2485 => (bif (decide (a2485 < (x0.length : Int))) then (chk (idxOk a2485 x0.length) (chk (idxOk a2485 x1.length) (bif ((gt x0 a2485) != (gt x1 a2485)) then some (.inl false) else laws_eqInt64S.l0 x0 x1 k (wrap64 (a2485 + 1))))) else some (.inr ()))
theorem laws_eqInt64S.l0_z (x0 : List Int) (x1 : List Int) (a2485 : Int) : laws_eqInt64S.l0 x0 x1 0 a2485 = none := rfl
theorem laws_eqInt64S.l0_s (x0 : List Int) (x1 : List Int) (k : Nat) (a2485 : Int) : laws_eqInt64S.l0 x0 x1 (k + 1) a2485 = (bif (decide (a2485 < (x0.length : Int))) then (chk (idxOk a2485 x0.length) (chk (idxOk a2485 x1.length) (bif ((gt x0 a2485) != (gt x1 a2485)) then some (.inl false) else laws_eqInt64S.l0 x0 x1 k (wrap64 (a2485 + 1))))) else some (.inr ())) := rfl
def laws_eqInt64S.f (k : Nat) (x0 : List Int) (x1 : List Int) : Option Bool := (bif ((x0.length : Int) != (x1.length : Int)) then some false else ((laws_eqInt64S.l0 x0 x1 k 0).bind fun o2477 => thn o2477 (fun r => some r) (fun _ => some true)))
theorem laws_eqInt64S.calls {k : Nat} {x0 : List Int} {x1 : List Int} {p0 : Value} {p1 : Value} {w : World} (hp0 : RdS kInt w p0 x0) (hp1 : RdS kInt w p1 x1) {r : Bool} (H : laws_eqInt64S.f k x0 x1 = some r) :
    Calls Try.prog 113 ([p0, p1] : List Value).toArray w (fun e w_ => ∃ v, e = .returned v ∧ v = (.bool r) ∧ Mem w [] w_ []) := by
  have HM := Mem.start w
  refine calls_run (N := 26) Try.func113 rfl rfl rfl rfl ?_
  unfold laws_eqInt64S.f at H
  refine run_seq ?_
  refine run_region rfl ?_
  refine ops_ex rfl (guard_none rfl) rfl rfl (ex_assign rfl rfl) ?_
  refine ops_nil ?_
  refine at_then ?_
  refine run_seq ?_
  refine run_seq ?_
  refine run_region rfl ?_
  refine ops_ex rfl (guard_none rfl) rfl rfl (ex_move rfl rfl) ?_
  refine ops_ex rfl (guard_none rfl) rfl rfl (ex_len (d := kInt) (xs := x0) rfl rfl Try.underlying74 hp0) ?_
  refine ops_ex rfl (guard_none rfl) rfl rfl (ex_move rfl rfl) ?_
  refine ops_ex rfl (guard_none rfl) rfl rfl (ex_len (d := kInt) (xs := x1) rfl rfl Try.underlying74 hp1) ?_
  refine ops_ex rfl (guard_none rfl) rfl rfl (ex_neq rfl rfl rfl) ?_
  refine ops_nil ?_
  refine at_then ?_
  refine run_cond (b := ((x0.length : Int) != (x1.length : Int))) rfl (fun hb2457 => ?_) (fun hb2457 => ?_)
  · replace H := cond_t hb2457 H
    refine run_seq ?_
    refine run_region rfl ?_
    refine ops_ex rfl (guard_none rfl) rfl rfl (ex_assign rfl rfl) ?_
    refine ops_nil ?_
    refine at_then ?_
    refine run_ret ?_
    refine at_then_ret ?_
    have hR := Option.some.inj H
    subst hR
    exact at_ret1 rfl rfl ⟨_, rfl, rfl, HM⟩
  · replace H := cond_f hb2457 H
    refine run_skip ?_
    refine at_then ?_
    obtain ⟨o2477, ho2478, H⟩ := bind_some H
    refine run_mid (fun ρ_ w_ => Sum.inr () = o2477 ∧ ρ_ = [] ∧ Mem w [] w_ []) ?_ ?_
    · skip
      refine run_seq ?_
      refine run_region rfl ?_
      refine ops_ex rfl (guard_none rfl) rfl rfl (ex_assign rfl rfl) ?_
      refine ops_nil ?_
      refine at_then ?_
      refine run_block ?_
      refine run_loop (fun k_ ρ_ w_ => ∃ a2485 : Int, laws_eqInt64S.l0 x0 x1 k_ a2485 = some o2477 ∧ ρ_ = [(0, p0), (1, p1), (5, .int .i64 a2485)] ∧ Mem w [] w_ []) k (ρ1 := [(0, p0), (1, p1), (5, .int .i64 0)]) ⟨_, ho2478, rfl, HM⟩ (Sub.cons rfl (Sub.cons rfl (Sub.cons rfl Sub.nil))) ?_
      clear HM ho2478
      rintro k2492 _ w2493 ⟨a2485, ho2478, rfl, HM⟩
      obtain _ | k2492 := k2492
      · exact nomatch ((laws_eqInt64S.l0_z x0 x1 a2485).symm.trans ho2478)
      replace ho2478 := (laws_eqInt64S.l0_s x0 x1 k2492 a2485).symm.trans ho2478
      refine run_seq ?_
      refine run_seq ?_
      refine run_region rfl ?_
      refine ops_ex rfl (guard_none rfl) rfl rfl (ex_move rfl rfl) ?_
      refine ops_ex rfl (guard_none rfl) rfl rfl (ex_move rfl rfl) ?_
      refine ops_ex rfl (guard_none rfl) rfl rfl (ex_len (d := kInt) (xs := x0) rfl rfl Try.underlying74 hp0) ?_
      refine ops_ex rfl (guard_none rfl) rfl rfl (ex_lss rfl rfl rfl) ?_
      refine ops_nil ?_
      refine at_then ?_
      refine run_cond (b := (decide (a2485 < (x0.length : Int)))) rfl (fun hb2494 => ?_) (fun hb2494 => ?_)
      · replace ho2478 := cond_t hb2494 ho2478
        refine run_skip ?_
        refine at_then ?_
        refine run_seq ?_
        refine run_block ?_
        refine run_seq ?_
        obtain ⟨e2495, ho2478⟩ := chk_some ho2478
        obtain ⟨e2497, ho2478⟩ := chk_some ho2478
        refine run_drawf (fun w_ => Mem w [] w_ []) [(0, true), (1, true), (2, true), (3, true), (4, true), (5, true), (6, true), (7, true), (8, true)] mixed rfl rfl (by kernel_rfl) ?_
        replace HM := HM.grow (fr_drew _)
        have hS := Mem.suf (M := []) HM
        refine drwp_take rfl (guard_none rfl) rfl rfl (fun w_ hS_ => (ex_move rfl rfl)) hS ?_
        refine drwp_take rfl (guard_none rfl) rfl rfl (fun w_ hS_ => (ex_move rfl rfl)) hS ?_
        have hc2496 : CellsAt _ (sb p0) (so p0 + (a2485).toNat * 1) [(.int .i64 (gt x0 a2485))] := rd_plain hp0 e2495
        refine drwp_take rfl (guard_none rfl) rfl rfl (fun w_ hS_ => (ex_indexAddr (d := kInt) rfl rfl rfl Try.underlying74 tsz2 hp0 (idx_lo e2495) (idx_hi e2495))) hS ?_
        refine drwp_take rfl (guard_none rfl) rfl rfl (fun w_ hS_ => (ex_load1 rfl rfl Try.underlying2 rfl ((hS_.at_ hc2496) 0 _ rfl))) hS ?_
        refine drwp_take rfl (guard_none rfl) rfl rfl (fun w_ hS_ => (ex_move rfl rfl)) hS ?_
        refine drwp_take rfl (guard_none rfl) rfl rfl (fun w_ hS_ => (ex_move rfl rfl)) hS ?_
        have hc2498 : CellsAt _ (sb p1) (so p1 + (a2485).toNat * 1) [(.int .i64 (gt x1 a2485))] := rd_plain hp1 e2497
        refine drwp_take rfl (guard_none rfl) rfl rfl (fun w_ hS_ => (ex_indexAddr (d := kInt) rfl rfl rfl Try.underlying74 tsz2 hp1 (idx_lo e2497) (idx_hi e2497))) hS ?_
        refine drwp_take rfl (guard_none rfl) rfl rfl (fun w_ hS_ => (ex_load1 rfl rfl Try.underlying2 rfl ((hS_.at_ hc2498) 0 _ rfl))) hS ?_
        refine drwp_take rfl (guard_none rfl) rfl rfl (fun w_ hS_ => (ex_neq rfl rfl rfl)) hS ?_
        refine drwp_done ?_
        refine at_then ?_
        refine run_cond (b := ((gt x0 a2485) != (gt x1 a2485))) rfl (fun hb2499 => ?_) (fun hb2499 => ?_)
        · replace ho2478 := cond_t hb2499 ho2478
          refine run_seq ?_
          refine run_region rfl ?_
          refine ops_ex rfl (guard_none rfl) rfl rfl (ex_assign rfl rfl) ?_
          refine ops_nil ?_
          refine at_then ?_
          refine run_ret ?_
          refine at_block_ret ?_
          refine at_then_ret ?_
          refine at_then_ret ?_
          refine at_block_ret ?_
          refine at_then_ret ?_
          have hR := Option.some.inj ho2478
          subst hR
          have hT := thn_inl H
          have hR := Option.some.inj hT
          subst hR
          exact at_ret1 rfl rfl ⟨_, rfl, rfl, HM⟩
        · replace ho2478 := cond_f hb2499 ho2478
          refine run_skip ?_
          refine at_block ?_
          refine at_then ?_
          refine run_region rfl ?_
          refine ops_ex rfl (guard_none rfl) rfl rfl (ex_move rfl rfl) ?_
          refine ops_ex rfl (guard_none rfl) rfl rfl (ex_add rfl rfl rfl) ?_
          refine ops_ex rfl (guard_none rfl) rfl rfl (ex_assign rfl rfl) ?_
          refine ops_nil ?_
          exact at_again k2492 (ρ1 := [(0, p0), (1, p1), (5, .int .i64 (wrap64 (a2485 + 1)))]) (Nat.lt_succ_self _) ⟨_, ho2478, rfl, HM⟩ (Sub.cons rfl (Sub.cons rfl (Sub.cons rfl Sub.nil)))
      · replace ho2478 := cond_f hb2494 ho2478
        refine run_exit ?_
        refine at_then_exit ?_
        refine at_then_exit ?_
        refine at_block_exit ?_
        exact at_mid (ρ' := []) ⟨(Option.some.inj ho2478), rfl, HM⟩ Sub.nil
    · rintro _ w2500 ⟨rfl, rfl, HM⟩
      replace H := (thn_inr H)
      refine run_seq ?_
      refine run_region rfl ?_
      refine ops_ex rfl (guard_none rfl) rfl rfl (ex_assign rfl rfl) ?_
      refine ops_nil ?_
      refine at_then ?_
      refine run_ret ?_
      have hR := Option.some.inj H
      subst hR
      exact at_ret1 rfl rfl ⟨_, rfl, rfl, HM⟩

def laws_eqRule.f (k : Nat) (x0 : Rule) (x1 : Rule) : Option Bool := ((laws_eqInt64S.f k x0.fKeys x1.fKeys).bind fun t2521 => (bif !t2521 then some false else (bif (x0.fNeed != x1.fNeed) then some false else (bif (x0.fAfter != x1.fAfter) then some false else some true))))
theorem laws_eqRule.calls {k : Nat} {x0 : Rule} {x1 : Rule} {p0_0 : Value} {p1_0 : Value} {w : World} (hp0_0 : RdS kInt w p0_0 x0.fKeys) (hp1_0 : RdS kInt w p1_0 x1.fKeys) {r : Bool} (H : laws_eqRule.f k x0 x1 = some r) :
    Calls Try.prog 159 ([.agg #[p0_0, (.int .i64 x0.fNeed), (.int .i64 x0.fAfter)], .agg #[p1_0, (.int .i64 x1.fNeed), (.int .i64 x1.fAfter)]] : List Value).toArray w (fun e w_ => ∃ v, e = .returned v ∧ v = (.bool r) ∧ Mem w [] w_ []) := by
  have HM := Mem.start w
  refine calls_run (N := 21) Try.func159 rfl rfl rfl rfl ?_
  unfold laws_eqRule.f at H
  refine run_seq ?_
  refine run_region rfl ?_
  refine ops_does rfl (guard_none rfl) rfl rfl (does_box (cs := [p0_0, .int .i64 x0.fNeed, .int .i64 x0.fAfter]) rfl rfl rfl HM) ?_
  rintro _ w2516 ⟨b2510, rfl, HM⟩
  refine ops_does rfl (guard_none rfl) rfl rfl (does_box (cs := [p1_0, .int .i64 x1.fNeed, .int .i64 x1.fAfter]) rfl rfl rfl HM) ?_
  rintro _ w2517 ⟨b2513, rfl, HM⟩
  refine ops_ex rfl (guard_none rfl) rfl rfl (ex_assign rfl rfl) ?_
  refine ops_nil ?_
  refine at_then ?_
  refine run_seq ?_
  refine run_seq ?_
  obtain ⟨t2521, h2522, H⟩ := bind_some H
  refine run_region rfl ?_
  refine ops_ex rfl (guard_none rfl) rfl rfl (ex_fieldAddr (off' := 0) rfl rfl Try.underlying100 rfl tsz74 rfl) ?_
  refine ops_ex rfl (guard_none rfl) rfl rfl (ex_load1 rfl rfl Try.underlying74 rfl ((HM.box_at 1 rfl) 0 _ rfl)) ?_
  refine ops_ex rfl (guard_none rfl) rfl rfl (ex_fieldAddr (off' := 0) rfl rfl Try.underlying100 rfl tsz74 rfl) ?_
  refine ops_ex rfl (guard_none rfl) rfl rfl (ex_load1 rfl rfl Try.underlying74 rfl ((HM.box_at 0 rfl) 0 _ rfl)) ?_
  refine ops_does rfl (guard_none rfl) rfl rfl (does_callk rfl callok113 rfl (laws_eqInt64S.calls (x0 := x0.fKeys) (x1 := x1.fKeys) (HM.rd hp0_0) (HM.rd hp1_0) h2522)) ?_
  rintro _ w2523 ⟨rfl, hn⟩
  replace HM : Mem w [] w2523 [box b2513 100 [p1_0, .int .i64 x1.fNeed, .int .i64 x1.fAfter], box b2510 100 [p0_0, .int .i64 x0.fNeed, .int .i64 x0.fAfter]] := HM.call hn
  refine ops_ex rfl (guard_none rfl) rfl rfl (ex_not rfl rfl) ?_
  refine ops_nil ?_
  refine at_then ?_
  refine run_cond (b := !t2521) rfl (fun hb2524 => ?_) (fun hb2524 => ?_)
  · replace H := cond_t hb2524 H
    refine run_seq ?_
    refine run_region rfl ?_
    refine ops_ex rfl (guard_none rfl) rfl rfl (ex_assign rfl rfl) ?_
    refine ops_nil ?_
    refine at_then ?_
    refine run_ret ?_
    refine at_then_ret ?_
    replace HM := (HM.front 0 rfl rfl).drop
    replace HM := (HM.front 0 rfl rfl).drop
    have hR := Option.some.inj H
    subst hR
    exact at_ret1 rfl rfl ⟨_, rfl, rfl, HM⟩
  · replace H := cond_f hb2524 H
    refine run_skip ?_
    refine at_then ?_
    refine run_seq ?_
    refine run_seq ?_
    refine run_region rfl ?_
    refine ops_ex rfl (guard_none rfl) rfl rfl (ex_fieldAddr (off' := 1) rfl rfl Try.underlying100 rfl tsz2 rfl) ?_
    refine ops_ex rfl (guard_none rfl) rfl rfl (ex_load1 rfl rfl Try.underlying2 rfl ((HM.box_at 1 rfl) 1 _ rfl)) ?_
    refine ops_ex rfl (guard_none rfl) rfl rfl (ex_fieldAddr (off' := 1) rfl rfl Try.underlying100 rfl tsz2 rfl) ?_
    refine ops_ex rfl (guard_none rfl) rfl rfl (ex_load1 rfl rfl Try.underlying2 rfl ((HM.box_at 0 rfl) 1 _ rfl)) ?_
    refine ops_ex rfl (guard_none rfl) rfl rfl (ex_neq rfl rfl rfl) ?_
    refine ops_nil ?_
    refine at_then ?_
    refine run_cond (b := (x0.fNeed != x1.fNeed)) rfl (fun hb2526 => ?_) (fun hb2526 => ?_)
    · replace H := cond_t hb2526 H
      refine run_seq ?_
      refine run_region rfl ?_
      refine ops_ex rfl (guard_none rfl) rfl rfl (ex_assign rfl rfl) ?_
      refine ops_nil ?_
      refine at_then ?_
      refine run_ret ?_
      refine at_then_ret ?_
      replace HM := (HM.front 0 rfl rfl).drop
      replace HM := (HM.front 0 rfl rfl).drop
      have hR := Option.some.inj H
      subst hR
      exact at_ret1 rfl rfl ⟨_, rfl, rfl, HM⟩
    · replace H := cond_f hb2526 H
      refine run_skip ?_
      refine at_then ?_
      refine run_seq ?_
      refine run_seq ?_
      refine run_region rfl ?_
      refine ops_ex rfl (guard_none rfl) rfl rfl (ex_fieldAddr (off' := 2) rfl rfl Try.underlying100 rfl tsz2 rfl) ?_
      refine ops_ex rfl (guard_none rfl) rfl rfl (ex_load1 rfl rfl Try.underlying2 rfl ((HM.box_at 1 rfl) 2 _ rfl)) ?_
      refine ops_ex rfl (guard_none rfl) rfl rfl (ex_fieldAddr (off' := 2) rfl rfl Try.underlying100 rfl tsz2 rfl) ?_
      refine ops_ex rfl (guard_none rfl) rfl rfl (ex_load1 rfl rfl Try.underlying2 rfl ((HM.box_at 0 rfl) 2 _ rfl)) ?_
      refine ops_ex rfl (guard_none rfl) rfl rfl (ex_neq rfl rfl rfl) ?_
      refine ops_nil ?_
      refine at_then ?_
      refine run_cond (b := (x0.fAfter != x1.fAfter)) rfl (fun hb2527 => ?_) (fun hb2527 => ?_)
      · replace H := cond_t hb2527 H
        refine run_seq ?_
        refine run_region rfl ?_
        refine ops_ex rfl (guard_none rfl) rfl rfl (ex_assign rfl rfl) ?_
        refine ops_nil ?_
        refine at_then ?_
        refine run_ret ?_
        refine at_then_ret ?_
        replace HM := (HM.front 0 rfl rfl).drop
        replace HM := (HM.front 0 rfl rfl).drop
        have hR := Option.some.inj H
        subst hR
        exact at_ret1 rfl rfl ⟨_, rfl, rfl, HM⟩
      · replace H := cond_f hb2527 H
        refine run_skip ?_
        refine at_then ?_
        refine run_seq ?_
        refine run_region rfl ?_
        refine ops_ex rfl (guard_none rfl) rfl rfl (ex_assign rfl rfl) ?_
        refine ops_nil ?_
        refine at_then ?_
        refine run_ret ?_
        replace HM := (HM.front 0 rfl rfl).drop
        replace HM := (HM.front 0 rfl rfl).drop
        have hR := Option.some.inj H
        subst hR
        exact at_ret1 rfl rfl ⟨_, rfl, rfl, HM⟩

def laws_eqOut.f (k : Nat) (x0 : Out) (x1 : Out) : Option Bool := (bif (x0.fValue != x1.fValue) then some false else ((laws_eqRule.f k x0.fRule x1.fRule).bind fun t2541 => (bif !t2541 then some false else some true)))
theorem laws_eqOut.calls {k : Nat} {x0 : Out} {x1 : Out} {p0_0 : Value} {p1_0 : Value} {w : World} (hp0_0 : RdS kInt w p0_0 x0.fRule.fKeys) (hp1_0 : RdS kInt w p1_0 x1.fRule.fKeys) {r : Bool} (H : laws_eqOut.f k x0 x1 = some r) :
    Calls Try.prog 125 ([.agg #[(.int .i64 x0.fValue), p0_0, (.int .i64 x0.fRule.fNeed), (.int .i64 x0.fRule.fAfter)], .agg #[(.int .i64 x1.fValue), p1_0, (.int .i64 x1.fRule.fNeed), (.int .i64 x1.fRule.fAfter)]] : List Value).toArray w (fun e w_ => ∃ v, e = .returned v ∧ v = (.bool r) ∧ Mem w [] w_ []) := by
  have HM := Mem.start w
  refine calls_run (N := 16) Try.func125 rfl rfl rfl rfl ?_
  unfold laws_eqOut.f at H
  refine run_seq ?_
  refine run_region rfl ?_
  refine ops_does rfl (guard_none rfl) rfl rfl (does_box (cs := [.int .i64 x0.fValue, p0_0, .int .i64 x0.fRule.fNeed, .int .i64 x0.fRule.fAfter]) rfl rfl rfl HM) ?_
  rintro _ w2537 ⟨b2531, rfl, HM⟩
  refine ops_does rfl (guard_none rfl) rfl rfl (does_box (cs := [.int .i64 x1.fValue, p1_0, .int .i64 x1.fRule.fNeed, .int .i64 x1.fRule.fAfter]) rfl rfl rfl HM) ?_
  rintro _ w2538 ⟨b2534, rfl, HM⟩
  refine ops_ex rfl (guard_none rfl) rfl rfl (ex_assign rfl rfl) ?_
  refine ops_nil ?_
  refine at_then ?_
  refine run_seq ?_
  refine run_seq ?_
  refine run_region rfl ?_
  refine ops_ex rfl (guard_none rfl) rfl rfl (ex_fieldAddr (off' := 0) rfl rfl Try.underlying102 rfl tsz2 rfl) ?_
  refine ops_ex rfl (guard_none rfl) rfl rfl (ex_load1 rfl rfl Try.underlying2 rfl ((HM.box_at 1 rfl) 0 _ rfl)) ?_
  refine ops_ex rfl (guard_none rfl) rfl rfl (ex_fieldAddr (off' := 0) rfl rfl Try.underlying102 rfl tsz2 rfl) ?_
  refine ops_ex rfl (guard_none rfl) rfl rfl (ex_load1 rfl rfl Try.underlying2 rfl ((HM.box_at 0 rfl) 0 _ rfl)) ?_
  refine ops_ex rfl (guard_none rfl) rfl rfl (ex_neq rfl rfl rfl) ?_
  refine ops_nil ?_
  refine at_then ?_
  refine run_cond (b := (x0.fValue != x1.fValue)) rfl (fun hb2540 => ?_) (fun hb2540 => ?_)
  · replace H := cond_t hb2540 H
    refine run_seq ?_
    refine run_region rfl ?_
    refine ops_ex rfl (guard_none rfl) rfl rfl (ex_assign rfl rfl) ?_
    refine ops_nil ?_
    refine at_then ?_
    refine run_ret ?_
    refine at_then_ret ?_
    replace HM := (HM.front 0 rfl rfl).drop
    replace HM := (HM.front 0 rfl rfl).drop
    have hR := Option.some.inj H
    subst hR
    exact at_ret1 rfl rfl ⟨_, rfl, rfl, HM⟩
  · replace H := cond_f hb2540 H
    refine run_skip ?_
    refine at_then ?_
    refine run_seq ?_
    refine run_seq ?_
    obtain ⟨t2541, h2542, H⟩ := bind_some H
    refine run_region rfl ?_
    refine ops_ex rfl (guard_none rfl) rfl rfl (ex_fieldAddr (off' := 1) rfl rfl Try.underlying102 rfl tsz100 rfl) ?_
    refine ops_ex rfl (guard_none rfl) rfl rfl (ex_loadN (cs := [p0_0, (.int .i64 x0.fRule.fNeed), (.int .i64 x0.fRule.fAfter)]) rfl rfl Try.underlying100 rfl tsz100 rfl ((HM.box_at 1 rfl).sub 1 3 rfl)) ?_
    refine ops_ex rfl (guard_none rfl) rfl rfl (ex_fieldAddr (off' := 1) rfl rfl Try.underlying102 rfl tsz100 rfl) ?_
    refine ops_ex rfl (guard_none rfl) rfl rfl (ex_loadN (cs := [p1_0, (.int .i64 x1.fRule.fNeed), (.int .i64 x1.fRule.fAfter)]) rfl rfl Try.underlying100 rfl tsz100 rfl ((HM.box_at 0 rfl).sub 1 3 rfl)) ?_
    refine ops_does rfl (guard_none rfl) rfl rfl (does_callk rfl callok159 rfl (laws_eqRule.calls (x0 := x0.fRule) (x1 := x1.fRule) (HM.rd hp0_0) (HM.rd hp1_0) h2542)) ?_
    rintro _ w2543 ⟨rfl, hn⟩
    replace HM : Mem w [] w2543 [box b2534 102 [.int .i64 x1.fValue, p1_0, .int .i64 x1.fRule.fNeed, .int .i64 x1.fRule.fAfter], box b2531 102 [.int .i64 x0.fValue, p0_0, .int .i64 x0.fRule.fNeed, .int .i64 x0.fRule.fAfter]] := HM.call hn
    refine ops_ex rfl (guard_none rfl) rfl rfl (ex_not rfl rfl) ?_
    refine ops_nil ?_
    refine at_then ?_
    refine run_cond (b := !t2541) rfl (fun hb2544 => ?_) (fun hb2544 => ?_)
    · replace H := cond_t hb2544 H
      refine run_seq ?_
      refine run_region rfl ?_
      refine ops_ex rfl (guard_none rfl) rfl rfl (ex_assign rfl rfl) ?_
      refine ops_nil ?_
      refine at_then ?_
      refine run_ret ?_
      refine at_then_ret ?_
      replace HM := (HM.front 0 rfl rfl).drop
      replace HM := (HM.front 0 rfl rfl).drop
      have hR := Option.some.inj H
      subst hR
      exact at_ret1 rfl rfl ⟨_, rfl, rfl, HM⟩
    · replace H := cond_f hb2544 H
      refine run_skip ?_
      refine at_then ?_
      refine run_seq ?_
      refine run_region rfl ?_
      refine ops_ex rfl (guard_none rfl) rfl rfl (ex_assign rfl rfl) ?_
      refine ops_nil ?_
      refine at_then ?_
      refine run_ret ?_
      replace HM := (HM.front 0 rfl rfl).drop
      replace HM := (HM.front 0 rfl rfl).drop
      have hR := Option.some.inj H
      subst hR
      exact at_ret1 rfl rfl ⟨_, rfl, rfl, HM⟩

def laws_eqOutS.l0 (x0 : List Out) (x1 : List Out) : Nat → Int → Option (Bool ⊕ Unit)
  | 0, _ => none
  | k + 1, a2628 => (bif (decide (a2628 < (x0.length : Int))) then (chk (idxOk a2628 x0.length) (chk (idxOk a2628 x1.length) ((laws_eqOut.f k (gt x0 a2628) (gt x1 a2628)).bind fun t2652 => (bif !t2652 then some (.inl false) else laws_eqOutS.l0 x0 x1 k (wrap64 (a2628 + 1)))))) else some (.inr ()))
theorem laws_eqOutS.l0_z (x0 : List Out) (x1 : List Out) (a2628 : Int) : laws_eqOutS.l0 x0 x1 0 a2628 = none := rfl
theorem laws_eqOutS.l0_s (x0 : List Out) (x1 : List Out) (k : Nat) (a2628 : Int) : laws_eqOutS.l0 x0 x1 (k + 1) a2628 = (bif (decide (a2628 < (x0.length : Int))) then (chk (idxOk a2628 x0.length) (chk (idxOk a2628 x1.length) ((laws_eqOut.f k (gt x0 a2628) (gt x1 a2628)).bind fun t2652 => (bif !t2652 then some (.inl false) else laws_eqOutS.l0 x0 x1 k (wrap64 (a2628 + 1)))))) else some (.inr ())) := rfl
def laws_eqOutS.f (k : Nat) (x0 : List Out) (x1 : List Out) : Option Bool := (bif ((x0.length : Int) != (x1.length : Int)) then some false else ((laws_eqOutS.l0 x0 x1 k 0).bind fun o2614 => thn o2614 (fun r => some r) (fun _ => some true)))
theorem laws_eqOutS.calls {k : Nat} {x0 : List Out} {x1 : List Out} {p0 : Value} {p1 : Value} {w : World} (hp0 : RdS kOut w p0 x0) (hp1 : RdS kOut w p1 x1) {r : Bool} (H : laws_eqOutS.f k x0 x1 = some r) :
    Calls Try.prog 77 ([p0, p1] : List Value).toArray w (fun e w_ => ∃ v, e = .returned v ∧ v = (.bool r) ∧ Mem w [] w_ []) := by
  have HM := Mem.start w
  refine calls_run (N := 27) Try.func77 rfl rfl rfl rfl ?_
  unfold laws_eqOutS.f at H
  refine run_seq ?_
  refine run_region rfl ?_
  refine ops_ex rfl (guard_none rfl) rfl rfl (ex_assign rfl rfl) ?_
  refine ops_nil ?_
  refine at_then ?_
  refine run_seq ?_
  refine run_seq ?_
  refine run_region rfl ?_
  refine ops_ex rfl (guard_none rfl) rfl rfl (ex_move rfl rfl) ?_
  refine ops_ex rfl (guard_none rfl) rfl rfl (ex_len (d := kOut) (xs := x0) rfl rfl Try.underlying35 hp0) ?_
  refine ops_ex rfl (guard_none rfl) rfl rfl (ex_move rfl rfl) ?_
  refine ops_ex rfl (guard_none rfl) rfl rfl (ex_len (d := kOut) (xs := x1) rfl rfl Try.underlying35 hp1) ?_
  refine ops_ex rfl (guard_none rfl) rfl rfl (ex_neq rfl rfl rfl) ?_
  refine ops_nil ?_
  refine at_then ?_
  refine run_cond (b := ((x0.length : Int) != (x1.length : Int))) rfl (fun hb2576 => ?_) (fun hb2576 => ?_)
  · replace H := cond_t hb2576 H
    refine run_seq ?_
    refine run_region rfl ?_
    refine ops_ex rfl (guard_none rfl) rfl rfl (ex_assign rfl rfl) ?_
    refine ops_nil ?_
    refine at_then ?_
    refine run_ret ?_
    refine at_then_ret ?_
    have hR := Option.some.inj H
    subst hR
    exact at_ret1 rfl rfl ⟨_, rfl, rfl, HM⟩
  · replace H := cond_f hb2576 H
    refine run_skip ?_
    refine at_then ?_
    obtain ⟨o2614, ho2615, H⟩ := bind_some H
    refine run_mid (fun ρ_ w_ => Sum.inr () = o2614 ∧ ρ_ = [] ∧ Mem w [] w_ []) ?_ ?_
    · skip
      refine run_seq ?_
      refine run_region rfl ?_
      refine ops_ex rfl (guard_none rfl) rfl rfl (ex_assign rfl rfl) ?_
      refine ops_nil ?_
      refine at_then ?_
      refine run_block ?_
      refine run_loop (fun k_ ρ_ w_ => ∃ a2628 : Int, laws_eqOutS.l0 x0 x1 k_ a2628 = some o2614 ∧ ρ_ = [(0, p0), (1, p1), (5, .int .i64 a2628)] ∧ Mem w [] w_ []) k (ρ1 := [(0, p0), (1, p1), (5, .int .i64 0)]) ⟨_, ho2615, rfl, HM⟩ (Sub.cons rfl (Sub.cons rfl (Sub.cons rfl Sub.nil))) ?_
      clear HM ho2615
      rintro k2641 _ w2642 ⟨a2628, ho2615, rfl, HM⟩
      obtain _ | k2641 := k2641
      · exact nomatch ((laws_eqOutS.l0_z x0 x1 a2628).symm.trans ho2615)
      replace ho2615 := (laws_eqOutS.l0_s x0 x1 k2641 a2628).symm.trans ho2615
      refine run_seq ?_
      refine run_seq ?_
      refine run_region rfl ?_
      refine ops_ex rfl (guard_none rfl) rfl rfl (ex_move rfl rfl) ?_
      refine ops_ex rfl (guard_none rfl) rfl rfl (ex_move rfl rfl) ?_
      refine ops_ex rfl (guard_none rfl) rfl rfl (ex_len (d := kOut) (xs := x0) rfl rfl Try.underlying35 hp0) ?_
      refine ops_ex rfl (guard_none rfl) rfl rfl (ex_lss rfl rfl rfl) ?_
      refine ops_nil ?_
      refine at_then ?_
      refine run_cond (b := (decide (a2628 < (x0.length : Int)))) rfl (fun hb2643 => ?_) (fun hb2643 => ?_)
      · replace ho2615 := cond_t hb2643 ho2615
        refine run_skip ?_
        refine at_then ?_
        refine run_seq ?_
        refine run_block ?_
        refine run_seq ?_
        obtain ⟨e2644, ho2615⟩ := chk_some ho2615
        obtain ⟨e2648, ho2615⟩ := chk_some ho2615
        obtain ⟨t2652, h2653, ho2615⟩ := bind_some ho2615
        refine run_drawf (fun w_ => Mem w [] w_ []) [(0, true), (1, true), (2, true), (3, true), (4, true), (5, true), (6, true), (7, true), (8, false), (9, true)] mixed rfl rfl (by kernel_rfl) ?_
        replace HM := HM.grow (fr_drew _)
        have hS := Mem.suf (M := []) HM
        refine drwp_take rfl (guard_none rfl) rfl rfl (fun w_ hS_ => (ex_move rfl rfl)) hS ?_
        refine drwp_take rfl (guard_none rfl) rfl rfl (fun w_ hS_ => (ex_move rfl rfl)) hS ?_
        obtain ⟨kv2646, hc2645, hk2647⟩ : ∃ u, CellsAt _ (sb p0) (so p0 + (a2628).toNat * 4) [(.int .i64 ((gt x0 a2628).fValue)), u, (.int .i64 ((gt x0 a2628).fRule.fNeed)), (.int .i64 ((gt x0 a2628).fRule.fAfter))] ∧ RdS kInt _ u ((gt x0 a2628).fRule.fKeys) := rd_with1 hp0 e2644
        refine drwp_take rfl (guard_none rfl) rfl rfl (fun w_ hS_ => (ex_indexAddr (d := kOut) rfl rfl rfl Try.underlying35 tsz102 hp0 (idx_lo e2644) (idx_hi e2644))) hS ?_
        refine drwp_take rfl (guard_none rfl) rfl rfl (fun w_ hS_ => (ex_loadN (cs := [(.int .i64 ((gt x0 a2628).fValue)), kv2646, (.int .i64 ((gt x0 a2628).fRule.fNeed)), (.int .i64 ((gt x0 a2628).fRule.fAfter))]) rfl rfl Try.underlying102 rfl tsz102 rfl ((hS_.at_ hc2645).sub 0 4 rfl))) hS ?_
        refine drwp_take rfl (guard_none rfl) rfl rfl (fun w_ hS_ => (ex_move rfl rfl)) hS ?_
        refine drwp_take rfl (guard_none rfl) rfl rfl (fun w_ hS_ => (ex_move rfl rfl)) hS ?_
        obtain ⟨kv2650, hc2649, hk2651⟩ : ∃ u, CellsAt _ (sb p1) (so p1 + (a2628).toNat * 4) [(.int .i64 ((gt x1 a2628).fValue)), u, (.int .i64 ((gt x1 a2628).fRule.fNeed)), (.int .i64 ((gt x1 a2628).fRule.fAfter))] ∧ RdS kInt _ u ((gt x1 a2628).fRule.fKeys) := rd_with1 hp1 e2648
        refine drwp_take rfl (guard_none rfl) rfl rfl (fun w_ hS_ => (ex_indexAddr (d := kOut) rfl rfl rfl Try.underlying35 tsz102 hp1 (idx_lo e2648) (idx_hi e2648))) hS ?_
        refine drwp_take rfl (guard_none rfl) rfl rfl (fun w_ hS_ => (ex_loadN (cs := [(.int .i64 ((gt x1 a2628).fValue)), kv2650, (.int .i64 ((gt x1 a2628).fRule.fNeed)), (.int .i64 ((gt x1 a2628).fRule.fAfter))]) rfl rfl Try.underlying102 rfl tsz102 rfl ((hS_.at_ hc2649).sub 0 4 rfl))) hS ?_
        refine drwp_one rfl (guard_none rfl) rfl rfl (does_callk rfl callok125 rfl (laws_eqOut.calls (x0 := (gt x0 a2628)) (x1 := (gt x1 a2628)) (HM.rd hk2647) (HM.rd hk2651) h2653)) ?_
        rintro _ w2654 ⟨rfl, hn⟩
        replace HM : Mem w [] w2654 [] := HM.call hn
        refine ⟨Mem.suf (M := []) HM, ?_⟩
        have hS := Mem.suf (M := []) HM
        refine drwp_take rfl (guard_none rfl) rfl rfl (fun w_ hS_ => (ex_not rfl rfl)) hS ?_
        refine drwp_done ?_
        refine at_then ?_
        refine run_cond (b := !t2652) rfl (fun hb2655 => ?_) (fun hb2655 => ?_)
        · replace ho2615 := cond_t hb2655 ho2615
          refine run_seq ?_
          refine run_region rfl ?_
          refine ops_ex rfl (guard_none rfl) rfl rfl (ex_assign rfl rfl) ?_
          refine ops_nil ?_
          refine at_then ?_
          refine run_ret ?_
          refine at_block_ret ?_
          refine at_then_ret ?_
          refine at_then_ret ?_
          refine at_block_ret ?_
          refine at_then_ret ?_
          have hR := Option.some.inj ho2615
          subst hR
          have hT := thn_inl H
          have hR := Option.some.inj hT
          subst hR
          exact at_ret1 rfl rfl ⟨_, rfl, rfl, HM⟩
        · replace ho2615 := cond_f hb2655 ho2615
          refine run_skip ?_
          refine at_block ?_
          refine at_then ?_
          refine run_region rfl ?_
          refine ops_ex rfl (guard_none rfl) rfl rfl (ex_move rfl rfl) ?_
          refine ops_ex rfl (guard_none rfl) rfl rfl (ex_add rfl rfl rfl) ?_
          refine ops_ex rfl (guard_none rfl) rfl rfl (ex_assign rfl rfl) ?_
          refine ops_nil ?_
          exact at_again k2641 (ρ1 := [(0, p0), (1, p1), (5, .int .i64 (wrap64 (a2628 + 1)))]) (Nat.lt_succ_self _) ⟨_, ho2615, rfl, HM⟩ (Sub.cons rfl (Sub.cons rfl (Sub.cons rfl Sub.nil)))
      · replace ho2615 := cond_f hb2643 ho2615
        refine run_exit ?_
        refine at_then_exit ?_
        refine at_then_exit ?_
        refine at_block_exit ?_
        exact at_mid (ρ' := []) ⟨(Option.some.inj ho2615), rfl, HM⟩ Sub.nil
    · rintro _ w2656 ⟨rfl, rfl, HM⟩
      replace H := (thn_inr H)
      refine run_seq ?_
      refine run_region rfl ?_
      refine ops_ex rfl (guard_none rfl) rfl rfl (ex_assign rfl rfl) ?_
      refine ops_nil ?_
      refine at_then ?_
      refine run_ret ?_
      have hR := Option.some.inj H
      subst hR
      exact at_ret1 rfl rfl ⟨_, rfl, rfl, HM⟩

def laws_eqTx.f (k : Nat) (x0 : Tx) (x1 : Tx) : Option Bool := (bif (x0.fKind != x1.fKind) then some false else (bif (x0.fMember != x1.fMember) then some false else ((laws_eqRefS.f k x0.fIns x1.fIns).bind fun t2675 => (bif !t2675 then some false else ((laws_eqOutS.f k x0.fOuts x1.fOuts).bind fun t2679 => (bif !t2679 then some false else some true))))))
theorem laws_eqTx.calls {k : Nat} {x0 : Tx} {x1 : Tx} {p0_0 : Value} {p0_1 : Value} {p1_0 : Value} {p1_1 : Value} {w : World} (hp0_0 : RdS kRef w p0_0 x0.fIns) (hp0_1 : RdS kOut w p0_1 x0.fOuts) (hp1_0 : RdS kRef w p1_0 x1.fIns) (hp1_1 : RdS kOut w p1_1 x1.fOuts) {r : Bool} (H : laws_eqTx.f k x0 x1 = some r) :
    Calls Try.prog 24 ([.agg #[(.int .i64 x0.fKind), (.int .i64 x0.fMember), p0_0, p0_1], .agg #[(.int .i64 x1.fKind), (.int .i64 x1.fMember), p1_0, p1_1]] : List Value).toArray w (fun e w_ => ∃ v, e = .returned v ∧ v = (.bool r) ∧ Mem w [] w_ []) := by
  have HM := Mem.start w
  refine calls_run (N := 27) Try.func24 rfl rfl rfl rfl ?_
  unfold laws_eqTx.f at H
  refine run_seq ?_
  refine run_region rfl ?_
  refine ops_does rfl (guard_none rfl) rfl rfl (does_box (cs := [.int .i64 x0.fKind, .int .i64 x0.fMember, p0_0, p0_1]) rfl rfl rfl HM) ?_
  rintro _ w2666 ⟨b2660, rfl, HM⟩
  refine ops_does rfl (guard_none rfl) rfl rfl (does_box (cs := [.int .i64 x1.fKind, .int .i64 x1.fMember, p1_0, p1_1]) rfl rfl rfl HM) ?_
  rintro _ w2667 ⟨b2663, rfl, HM⟩
  refine ops_ex rfl (guard_none rfl) rfl rfl (ex_assign rfl rfl) ?_
  refine ops_nil ?_
  refine at_then ?_
  refine run_seq ?_
  refine run_seq ?_
  refine run_region rfl ?_
  refine ops_ex rfl (guard_none rfl) rfl rfl (ex_fieldAddr (off' := 0) rfl rfl Try.underlying37 rfl tsz2 rfl) ?_
  refine ops_ex rfl (guard_none rfl) rfl rfl (ex_load1 rfl rfl Try.underlying2 rfl ((HM.box_at 1 rfl) 0 _ rfl)) ?_
  refine ops_ex rfl (guard_none rfl) rfl rfl (ex_fieldAddr (off' := 0) rfl rfl Try.underlying37 rfl tsz2 rfl) ?_
  refine ops_ex rfl (guard_none rfl) rfl rfl (ex_load1 rfl rfl Try.underlying2 rfl ((HM.box_at 0 rfl) 0 _ rfl)) ?_
  refine ops_ex rfl (guard_none rfl) rfl rfl (ex_neq rfl rfl rfl) ?_
  refine ops_nil ?_
  refine at_then ?_
  refine run_cond (b := (x0.fKind != x1.fKind)) rfl (fun hb2669 => ?_) (fun hb2669 => ?_)
  · replace H := cond_t hb2669 H
    refine run_seq ?_
    refine run_region rfl ?_
    refine ops_ex rfl (guard_none rfl) rfl rfl (ex_assign rfl rfl) ?_
    refine ops_nil ?_
    refine at_then ?_
    refine run_ret ?_
    refine at_then_ret ?_
    replace HM := (HM.front 0 rfl rfl).drop
    replace HM := (HM.front 0 rfl rfl).drop
    have hR := Option.some.inj H
    subst hR
    exact at_ret1 rfl rfl ⟨_, rfl, rfl, HM⟩
  · replace H := cond_f hb2669 H
    refine run_skip ?_
    refine at_then ?_
    refine run_seq ?_
    refine run_seq ?_
    refine run_region rfl ?_
    refine ops_ex rfl (guard_none rfl) rfl rfl (ex_fieldAddr (off' := 1) rfl rfl Try.underlying37 rfl tsz2 rfl) ?_
    refine ops_ex rfl (guard_none rfl) rfl rfl (ex_load1 rfl rfl Try.underlying2 rfl ((HM.box_at 1 rfl) 1 _ rfl)) ?_
    refine ops_ex rfl (guard_none rfl) rfl rfl (ex_fieldAddr (off' := 1) rfl rfl Try.underlying37 rfl tsz2 rfl) ?_
    refine ops_ex rfl (guard_none rfl) rfl rfl (ex_load1 rfl rfl Try.underlying2 rfl ((HM.box_at 0 rfl) 1 _ rfl)) ?_
    refine ops_ex rfl (guard_none rfl) rfl rfl (ex_neq rfl rfl rfl) ?_
    refine ops_nil ?_
    refine at_then ?_
    refine run_cond (b := (x0.fMember != x1.fMember)) rfl (fun hb2671 => ?_) (fun hb2671 => ?_)
    · replace H := cond_t hb2671 H
      refine run_seq ?_
      refine run_region rfl ?_
      refine ops_ex rfl (guard_none rfl) rfl rfl (ex_assign rfl rfl) ?_
      refine ops_nil ?_
      refine at_then ?_
      refine run_ret ?_
      refine at_then_ret ?_
      replace HM := (HM.front 0 rfl rfl).drop
      replace HM := (HM.front 0 rfl rfl).drop
      have hR := Option.some.inj H
      subst hR
      exact at_ret1 rfl rfl ⟨_, rfl, rfl, HM⟩
    · replace H := cond_f hb2671 H
      refine run_skip ?_
      refine at_then ?_
      refine run_seq ?_
      refine run_seq ?_
      obtain ⟨t2675, h2676, H⟩ := bind_some H
      refine run_region rfl ?_
      refine ops_ex rfl (guard_none rfl) rfl rfl (ex_fieldAddr (off' := 2) rfl rfl Try.underlying37 rfl tsz34 rfl) ?_
      refine ops_ex rfl (guard_none rfl) rfl rfl (ex_load1 rfl rfl Try.underlying34 rfl ((HM.box_at 1 rfl) 2 _ rfl)) ?_
      refine ops_ex rfl (guard_none rfl) rfl rfl (ex_fieldAddr (off' := 2) rfl rfl Try.underlying37 rfl tsz34 rfl) ?_
      refine ops_ex rfl (guard_none rfl) rfl rfl (ex_load1 rfl rfl Try.underlying34 rfl ((HM.box_at 0 rfl) 2 _ rfl)) ?_
      refine ops_does rfl (guard_none rfl) rfl rfl (does_callk rfl callok76 rfl (laws_eqRefS.calls (x0 := x0.fIns) (x1 := x1.fIns) (HM.rd hp0_0) (HM.rd hp1_0) h2676)) ?_
      rintro _ w2677 ⟨rfl, hn⟩
      replace HM : Mem w [] w2677 [box b2663 37 [.int .i64 x1.fKind, .int .i64 x1.fMember, p1_0, p1_1], box b2660 37 [.int .i64 x0.fKind, .int .i64 x0.fMember, p0_0, p0_1]] := HM.call hn
      refine ops_ex rfl (guard_none rfl) rfl rfl (ex_not rfl rfl) ?_
      refine ops_nil ?_
      refine at_then ?_
      refine run_cond (b := !t2675) rfl (fun hb2678 => ?_) (fun hb2678 => ?_)
      · replace H := cond_t hb2678 H
        refine run_seq ?_
        refine run_region rfl ?_
        refine ops_ex rfl (guard_none rfl) rfl rfl (ex_assign rfl rfl) ?_
        refine ops_nil ?_
        refine at_then ?_
        refine run_ret ?_
        refine at_then_ret ?_
        replace HM := (HM.front 0 rfl rfl).drop
        replace HM := (HM.front 0 rfl rfl).drop
        have hR := Option.some.inj H
        subst hR
        exact at_ret1 rfl rfl ⟨_, rfl, rfl, HM⟩
      · replace H := cond_f hb2678 H
        refine run_skip ?_
        refine at_then ?_
        refine run_seq ?_
        refine run_seq ?_
        obtain ⟨t2679, h2680, H⟩ := bind_some H
        refine run_region rfl ?_
        refine ops_ex rfl (guard_none rfl) rfl rfl (ex_fieldAddr (off' := 3) rfl rfl Try.underlying37 rfl tsz35 rfl) ?_
        refine ops_ex rfl (guard_none rfl) rfl rfl (ex_load1 rfl rfl Try.underlying35 rfl ((HM.box_at 1 rfl) 3 _ rfl)) ?_
        refine ops_ex rfl (guard_none rfl) rfl rfl (ex_fieldAddr (off' := 3) rfl rfl Try.underlying37 rfl tsz35 rfl) ?_
        refine ops_ex rfl (guard_none rfl) rfl rfl (ex_load1 rfl rfl Try.underlying35 rfl ((HM.box_at 0 rfl) 3 _ rfl)) ?_
        refine ops_does rfl (guard_none rfl) rfl rfl (does_callk rfl callok77 rfl (laws_eqOutS.calls (x0 := x0.fOuts) (x1 := x1.fOuts) (HM.rd hp0_1) (HM.rd hp1_1) h2680)) ?_
        rintro _ w2681 ⟨rfl, hn⟩
        replace HM : Mem w [] w2681 [box b2663 37 [.int .i64 x1.fKind, .int .i64 x1.fMember, p1_0, p1_1], box b2660 37 [.int .i64 x0.fKind, .int .i64 x0.fMember, p0_0, p0_1]] := HM.call hn
        refine ops_ex rfl (guard_none rfl) rfl rfl (ex_not rfl rfl) ?_
        refine ops_nil ?_
        refine at_then ?_
        refine run_cond (b := !t2679) rfl (fun hb2682 => ?_) (fun hb2682 => ?_)
        · replace H := cond_t hb2682 H
          refine run_seq ?_
          refine run_region rfl ?_
          refine ops_ex rfl (guard_none rfl) rfl rfl (ex_assign rfl rfl) ?_
          refine ops_nil ?_
          refine at_then ?_
          refine run_ret ?_
          refine at_then_ret ?_
          replace HM := (HM.front 0 rfl rfl).drop
          replace HM := (HM.front 0 rfl rfl).drop
          have hR := Option.some.inj H
          subst hR
          exact at_ret1 rfl rfl ⟨_, rfl, rfl, HM⟩
        · replace H := cond_f hb2682 H
          refine run_skip ?_
          refine at_then ?_
          refine run_seq ?_
          refine run_region rfl ?_
          refine ops_ex rfl (guard_none rfl) rfl rfl (ex_assign rfl rfl) ?_
          refine ops_nil ?_
          refine at_then ?_
          refine run_ret ?_
          replace HM := (HM.front 0 rfl rfl).drop
          replace HM := (HM.front 0 rfl rfl).drop
          have hR := Option.some.inj H
          subst hR
          exact at_ret1 rfl rfl ⟨_, rfl, rfl, HM⟩

def laws_FnExactClashTx.f (k : Nat) (x0 : Tx) (x1 : Tx) : Option Bool := ((laws_szTx.f k x0 1048576).bind fun t2712 => (bif (decide (t2712 < 0)) then some true else ((laws_szTx.f k x1 t2712).bind fun t2717 => (bif (decide (t2717 < 0)) then some true else ((laws_toTx.f k x0).bind fun t2722 => ((laws_toTx.f k x1).bind fun t2728 => ((spec_ClashTx.f k t2722 t2728).bind fun t2734 => ((laws_toTx.f k x0).bind fun t2739 => ((laws_toTx.f k x1).bind fun t2751 => ((impl_ClashTx.f k t2739 t2751).bind fun t2763 => (bif (t2763 != t2734) then some false else ((laws_toTx.f k x0).bind fun t2777 => ((laws_eqTx.f k t2739 t2777).bind fun t2783 => (bif !t2783 then some false else ((laws_toTx.f k x1).bind fun t2788 => ((laws_eqTx.f k t2751 t2788).bind fun t2794 => (bif !t2794 then some false else some true)))))))))))))))))
theorem laws_FnExactClashTx.calls {k : Nat} {x0 : Tx} {x1 : Tx} {p0_0 : Value} {p0_1 : Value} {p1_0 : Value} {p1_1 : Value} {w : World} (hp0_0 : RdS kRef w p0_0 x0.fIns) (hp0_1 : RdS kOut w p0_1 x0.fOuts) (hp1_0 : RdS kRef w p1_0 x1.fIns) (hp1_1 : RdS kOut w p1_1 x1.fOuts) {r : Bool} (H : laws_FnExactClashTx.f k x0 x1 = some r) :
    Calls Try.prog 9 ([.agg #[(.int .i64 x0.fKind), (.int .i64 x0.fMember), p0_0, p0_1], .agg #[(.int .i64 x1.fKind), (.int .i64 x1.fMember), p1_0, p1_1]] : List Value).toArray w (fun e w_ => ∃ v, e = .returned v ∧ v = (.bool r) ∧ Mem w [] w_ []) := by
  have HM := Mem.start w
  refine calls_run (N := 45) Try.func9 rfl rfl rfl rfl ?_
  unfold laws_FnExactClashTx.f at H
  refine run_seq ?_
  refine run_region rfl ?_
  refine ops_does rfl (guard_none rfl) rfl rfl (does_box (cs := [.int .i64 x0.fKind, .int .i64 x0.fMember, p0_0, p0_1]) rfl rfl rfl HM) ?_
  rintro _ w2710 ⟨b2704, rfl, HM⟩
  refine ops_does rfl (guard_none rfl) rfl rfl (does_box (cs := [.int .i64 x1.fKind, .int .i64 x1.fMember, p1_0, p1_1]) rfl rfl rfl HM) ?_
  rintro _ w2711 ⟨b2707, rfl, HM⟩
  refine ops_ex rfl (guard_none rfl) rfl rfl (ex_assign rfl rfl) ?_
  refine ops_nil ?_
  refine at_then ?_
  refine run_seq ?_
  refine run_region rfl ?_
  refine ops_ex rfl (guard_none rfl) rfl rfl (ex_assign rfl rfl) ?_
  refine ops_nil ?_
  refine at_then ?_
  refine run_seq ?_
  obtain ⟨t2712, h2713, H⟩ := bind_some H
  refine run_region rfl ?_
  refine ops_ex rfl (guard_none rfl) rfl rfl (ex_loadN (cs := [(.int .i64 x0.fKind), (.int .i64 x0.fMember), p0_0, p0_1]) rfl rfl Try.underlying31 rfl tsz31 rfl ((HM.box_at 1 rfl).sub 0 4 rfl)) ?_
  refine ops_ex rfl (guard_none rfl) rfl rfl (ex_move rfl rfl) ?_
  refine ops_does rfl (guard_none rfl) rfl rfl (does_callk rfl callok20 rfl (laws_szTx.calls (x0 := x0) (x1 := 1048576) (HM.rd hp0_0) (HM.rd hp0_1) h2713)) ?_
  rintro _ w2714 ⟨rfl, hn⟩
  replace HM : Mem w [] w2714 [box b2707 31 [.int .i64 x1.fKind, .int .i64 x1.fMember, p1_0, p1_1], box b2704 31 [.int .i64 x0.fKind, .int .i64 x0.fMember, p0_0, p0_1]] := HM.call hn
  refine ops_ex rfl (guard_none rfl) rfl rfl (ex_assign rfl rfl) ?_
  refine ops_nil ?_
  refine at_then ?_
  refine run_seq ?_
  refine run_seq ?_
  refine run_region rfl ?_
  refine ops_ex rfl (guard_none rfl) rfl rfl (ex_move rfl rfl) ?_
  refine ops_ex rfl (guard_none rfl) rfl rfl (ex_lss rfl rfl rfl) ?_
  refine ops_nil ?_
  refine at_then ?_
  refine run_cond (b := (decide (t2712 < 0))) rfl (fun hb2716 => ?_) (fun hb2716 => ?_)
  · replace H := cond_t hb2716 H
    refine run_seq ?_
    refine run_region rfl ?_
    refine ops_ex rfl (guard_none rfl) rfl rfl (ex_assign rfl rfl) ?_
    refine ops_nil ?_
    refine at_then ?_
    refine run_ret ?_
    refine at_then_ret ?_
    replace HM := (HM.front 0 rfl rfl).drop
    replace HM := (HM.front 0 rfl rfl).drop
    have hR := Option.some.inj H
    subst hR
    exact at_ret1 rfl rfl ⟨_, rfl, rfl, HM⟩
  · replace H := cond_f hb2716 H
    refine run_skip ?_
    refine at_then ?_
    refine run_seq ?_
    obtain ⟨t2717, h2718, H⟩ := bind_some H
    refine run_region rfl ?_
    refine ops_ex rfl (guard_none rfl) rfl rfl (ex_loadN (cs := [(.int .i64 x1.fKind), (.int .i64 x1.fMember), p1_0, p1_1]) rfl rfl Try.underlying31 rfl tsz31 rfl ((HM.box_at 0 rfl).sub 0 4 rfl)) ?_
    refine ops_ex rfl (guard_none rfl) rfl rfl (ex_move rfl rfl) ?_
    refine ops_does rfl (guard_none rfl) rfl rfl (does_callk rfl callok20 rfl (laws_szTx.calls (x0 := x1) (x1 := t2712) (HM.rd hp1_0) (HM.rd hp1_1) h2718)) ?_
    rintro _ w2719 ⟨rfl, hn⟩
    replace HM : Mem w [] w2719 [box b2707 31 [.int .i64 x1.fKind, .int .i64 x1.fMember, p1_0, p1_1], box b2704 31 [.int .i64 x0.fKind, .int .i64 x0.fMember, p0_0, p0_1]] := HM.call hn
    refine ops_ex rfl (guard_none rfl) rfl rfl (ex_assign rfl rfl) ?_
    refine ops_nil ?_
    refine at_then ?_
    refine run_seq ?_
    refine run_seq ?_
    refine run_region rfl ?_
    refine ops_ex rfl (guard_none rfl) rfl rfl (ex_move rfl rfl) ?_
    refine ops_ex rfl (guard_none rfl) rfl rfl (ex_lss rfl rfl rfl) ?_
    refine ops_nil ?_
    refine at_then ?_
    refine run_cond (b := (decide (t2717 < 0))) rfl (fun hb2721 => ?_) (fun hb2721 => ?_)
    · replace H := cond_t hb2721 H
      refine run_seq ?_
      refine run_region rfl ?_
      refine ops_ex rfl (guard_none rfl) rfl rfl (ex_assign rfl rfl) ?_
      refine ops_nil ?_
      refine at_then ?_
      refine run_ret ?_
      refine at_then_ret ?_
      replace HM := (HM.front 0 rfl rfl).drop
      replace HM := (HM.front 0 rfl rfl).drop
      have hR := Option.some.inj H
      subst hR
      exact at_ret1 rfl rfl ⟨_, rfl, rfl, HM⟩
    · replace H := cond_f hb2721 H
      refine run_skip ?_
      refine at_then ?_
      refine run_seq ?_
      obtain ⟨t2722, h2723, H⟩ := bind_some H
      obtain ⟨t2728, h2729, H⟩ := bind_some H
      obtain ⟨t2734, h2735, H⟩ := bind_some H
      refine run_drawf (fun w_ => Mem w [] w_ [box b2707 31 [.int .i64 x1.fKind, .int .i64 x1.fMember, p1_0, p1_1], box b2704 31 [.int .i64 x0.fKind, .int .i64 x0.fMember, p0_0, p0_1]]) [(0, true), (2, true), (1, false), (3, false), (4, false), (5, true)] mixed rfl rfl (by kernel_rfl) ?_
      replace HM := HM.grow (fr_drew _)
      have hS := Mem.suf (M := []) HM
      refine drwp_take rfl (guard_none rfl) rfl rfl (fun w_ hS_ => (ex_loadN (cs := [(.int .i64 x0.fKind), (.int .i64 x0.fMember), p0_0, p0_1]) rfl rfl Try.underlying31 rfl tsz31 rfl ((hS_.box_at 1 rfl).sub 0 4 rfl))) hS ?_
      refine drwp_take rfl (guard_none rfl) rfl rfl (fun w_ hS_ => (ex_loadN (cs := [(.int .i64 x1.fKind), (.int .i64 x1.fMember), p1_0, p1_1]) rfl rfl Try.underlying31 rfl tsz31 rfl ((hS_.box_at 0 rfl).sub 0 4 rfl))) hS ?_
      refine drwp_one rfl (guard_none rfl) rfl rfl (does_callk rfl callok22 rfl (laws_toTx.calls (x0 := x0) (HM.rd hp0_0) (HM.rd hp0_1) h2723)) ?_
      rintro _ w2736 ⟨u2724, u2726, rfl, hn⟩
      replace HM : Mem w [] w2736 [own kRef 99 u2724 t2722.fIns, own kOut 102 u2726 t2722.fOuts, box b2707 31 [.int .i64 x1.fKind, .int .i64 x1.fMember, p1_0, p1_1], box b2704 31 [.int .i64 x0.fKind, .int .i64 x0.fMember, p0_0, p0_1]] := HM.call hn
      refine ⟨Mem.suf (M := [own kRef 99 u2724 t2722.fIns, own kOut 102 u2726 t2722.fOuts]) HM, ?_⟩
      have hS := Mem.suf (M := [own kRef 99 u2724 t2722.fIns, own kOut 102 u2726 t2722.fOuts]) HM
      refine drwp_one rfl (guard_none rfl) rfl rfl (does_callk rfl callok22 rfl (laws_toTx.calls (x0 := x1) (HM.rd hp1_0) (HM.rd hp1_1) h2729)) ?_
      rintro _ w2737 ⟨u2730, u2732, rfl, hn⟩
      replace HM : Mem w [] w2737 [own kRef 99 u2730 t2728.fIns, own kOut 102 u2732 t2728.fOuts, own kRef 99 u2724 t2722.fIns, own kOut 102 u2726 t2722.fOuts, box b2707 31 [.int .i64 x1.fKind, .int .i64 x1.fMember, p1_0, p1_1], box b2704 31 [.int .i64 x0.fKind, .int .i64 x0.fMember, p0_0, p0_1]] := HM.call hn
      refine ⟨Mem.suf (M := [own kRef 99 u2730 t2728.fIns, own kOut 102 u2732 t2728.fOuts, own kRef 99 u2724 t2722.fIns, own kOut 102 u2726 t2722.fOuts]) HM, ?_⟩
      have hS := Mem.suf (M := [own kRef 99 u2730 t2728.fIns, own kOut 102 u2732 t2728.fOuts, own kRef 99 u2724 t2722.fIns, own kOut 102 u2726 t2722.fOuts]) HM
      refine drwp_one rfl (guard_none rfl) rfl rfl (does_callk rfl callok37 rfl (spec_ClashTx.calls (x0 := t2722) (x1 := t2728) (HM.own_rd 2 rfl) (HM.own_rd 3 rfl) (HM.own_rd 0 rfl) (HM.own_rd 1 rfl) h2735)) ?_
      rintro _ w2738 ⟨rfl, hn⟩
      replace HM : Mem w [] w2738 [own kRef 99 u2730 t2728.fIns, own kOut 102 u2732 t2728.fOuts, own kRef 99 u2724 t2722.fIns, own kOut 102 u2726 t2722.fOuts, box b2707 31 [.int .i64 x1.fKind, .int .i64 x1.fMember, p1_0, p1_1], box b2704 31 [.int .i64 x0.fKind, .int .i64 x0.fMember, p0_0, p0_1]] := HM.call hn
      refine ⟨Mem.suf (M := [own kRef 99 u2730 t2728.fIns, own kOut 102 u2732 t2728.fOuts, own kRef 99 u2724 t2722.fIns, own kOut 102 u2726 t2722.fOuts]) HM, ?_⟩
      have hS := Mem.suf (M := [own kRef 99 u2730 t2728.fIns, own kOut 102 u2732 t2728.fOuts, own kRef 99 u2724 t2722.fIns, own kOut 102 u2726 t2722.fOuts]) HM
      refine drwp_take rfl (guard_none rfl) rfl rfl (fun w_ hS_ => (ex_assign rfl rfl)) hS ?_
      refine drwp_done ?_
      refine at_then ?_
      refine run_seq ?_
      obtain ⟨t2739, h2740, H⟩ := bind_some H
      refine run_region rfl ?_
      refine ops_ex rfl (guard_none rfl) rfl rfl (ex_loadN (cs := [(.int .i64 x0.fKind), (.int .i64 x0.fMember), p0_0, p0_1]) rfl rfl Try.underlying31 rfl tsz31 rfl ((HM.box_at 5 rfl).sub 0 4 rfl)) ?_
      refine ops_does rfl (guard_none rfl) rfl rfl (does_callk rfl callok22 rfl (laws_toTx.calls (x0 := x0) (HM.rd hp0_0) (HM.rd hp0_1) h2740)) ?_
      rintro _ w2748 ⟨u2741, u2743, rfl, hn⟩
      replace HM : Mem w [] w2748 [own kRef 99 u2741 t2739.fIns, own kOut 102 u2743 t2739.fOuts, own kRef 99 u2730 t2728.fIns, own kOut 102 u2732 t2728.fOuts, own kRef 99 u2724 t2722.fIns, own kOut 102 u2726 t2722.fOuts, box b2707 31 [.int .i64 x1.fKind, .int .i64 x1.fMember, p1_0, p1_1], box b2704 31 [.int .i64 x0.fKind, .int .i64 x0.fMember, p0_0, p0_1]] := HM.call hn
      refine ops_does rfl (guard_none rfl) rfl rfl (does_alloc (cs := [.int .i64 0, .int .i64 0, .slice none 0 0, .slice none 0 0]) rfl tz37 rfl HM) ?_
      rintro _ w2749 ⟨b2745, rfl, HM⟩
      refine ops_doesS rfl (guard_none rfl) rfl (does_store (vs := [.int .i64 t2739.fKind, .int .i64 t2739.fMember, u2741, u2743]) (cs' := [.int .i64 t2739.fKind, .int .i64 t2739.fMember, u2741, u2743]) rfl rfl rfl rfl tsz37 (Ones.int (Ones.int (Ones.rd (HM.own_rd 1 rfl) (Ones.rd (HM.own_rd 2 rfl) Ones.nil)))) rfl rfl HM) ?_
      rintro w2750 HM
      refine ops_nil ?_
      refine at_then ?_
      refine run_seq ?_
      obtain ⟨t2751, h2752, H⟩ := bind_some H
      refine run_region rfl ?_
      refine ops_ex rfl (guard_none rfl) rfl rfl (ex_loadN (cs := [(.int .i64 x1.fKind), (.int .i64 x1.fMember), p1_0, p1_1]) rfl rfl Try.underlying31 rfl tsz31 rfl ((HM.box_at 7 rfl).sub 0 4 rfl)) ?_
      refine ops_does rfl (guard_none rfl) rfl rfl (does_callk rfl callok22 rfl (laws_toTx.calls (x0 := x1) (HM.rd hp1_0) (HM.rd hp1_1) h2752)) ?_
      rintro _ w2760 ⟨u2753, u2755, rfl, hn⟩
      replace HM : Mem w [] w2760 [own kRef 99 u2753 t2751.fIns, own kOut 102 u2755 t2751.fOuts, box b2745 37 [.int .i64 t2739.fKind, .int .i64 t2739.fMember, u2741, u2743], own kRef 99 u2741 t2739.fIns, own kOut 102 u2743 t2739.fOuts, own kRef 99 u2730 t2728.fIns, own kOut 102 u2732 t2728.fOuts, own kRef 99 u2724 t2722.fIns, own kOut 102 u2726 t2722.fOuts, box b2707 31 [.int .i64 x1.fKind, .int .i64 x1.fMember, p1_0, p1_1], box b2704 31 [.int .i64 x0.fKind, .int .i64 x0.fMember, p0_0, p0_1]] := HM.call hn
      refine ops_does rfl (guard_none rfl) rfl rfl (does_alloc (cs := [.int .i64 0, .int .i64 0, .slice none 0 0, .slice none 0 0]) rfl tz37 rfl HM) ?_
      rintro _ w2761 ⟨b2757, rfl, HM⟩
      refine ops_doesS rfl (guard_none rfl) rfl (does_store (vs := [.int .i64 t2751.fKind, .int .i64 t2751.fMember, u2753, u2755]) (cs' := [.int .i64 t2751.fKind, .int .i64 t2751.fMember, u2753, u2755]) rfl rfl rfl rfl tsz37 (Ones.int (Ones.int (Ones.rd (HM.own_rd 1 rfl) (Ones.rd (HM.own_rd 2 rfl) Ones.nil)))) rfl rfl HM) ?_
      rintro w2762 HM
      refine ops_nil ?_
      refine at_then ?_
      refine run_seq ?_
      obtain ⟨t2763, h2764, H⟩ := bind_some H
      refine run_region rfl ?_
      refine ops_ex rfl (guard_none rfl) rfl rfl (ex_loadN (cs := [(.int .i64 t2739.fKind), (.int .i64 t2739.fMember), u2741, u2743]) rfl rfl Try.underlying37 rfl tsz37 rfl ((HM.box_at 3 rfl).sub 0 4 rfl)) ?_
      refine ops_ex rfl (guard_none rfl) rfl rfl (ex_loadN (cs := [(.int .i64 t2751.fKind), (.int .i64 t2751.fMember), u2753, u2755]) rfl rfl Try.underlying37 rfl tsz37 rfl ((HM.box_at 0 rfl).sub 0 4 rfl)) ?_
      refine ops_does rfl (guard_none rfl) rfl rfl (does_callk rfl callok38 rfl (impl_ClashTx.calls (x0 := t2739) (x1 := t2751) (HM.own_rd 4 rfl) (HM.own_rd 5 rfl) (HM.own_rd 1 rfl) (HM.own_rd 2 rfl) h2764)) ?_
      rintro _ w2765 ⟨rfl, hn⟩
      replace HM : Mem w [] w2765 [box b2757 37 [.int .i64 t2751.fKind, .int .i64 t2751.fMember, u2753, u2755], own kRef 99 u2753 t2751.fIns, own kOut 102 u2755 t2751.fOuts, box b2745 37 [.int .i64 t2739.fKind, .int .i64 t2739.fMember, u2741, u2743], own kRef 99 u2741 t2739.fIns, own kOut 102 u2743 t2739.fOuts, own kRef 99 u2730 t2728.fIns, own kOut 102 u2732 t2728.fOuts, own kRef 99 u2724 t2722.fIns, own kOut 102 u2726 t2722.fOuts, box b2707 31 [.int .i64 x1.fKind, .int .i64 x1.fMember, p1_0, p1_1], box b2704 31 [.int .i64 x0.fKind, .int .i64 x0.fMember, p0_0, p0_1]] := HM.call hn
      refine ops_ex rfl (guard_none rfl) rfl rfl (ex_assign rfl rfl) ?_
      refine ops_nil ?_
      refine at_then ?_
      refine run_seq ?_
      refine run_seq ?_
      refine run_region rfl ?_
      refine ops_ex rfl (guard_none rfl) rfl rfl (ex_move rfl rfl) ?_
      refine ops_ex rfl (guard_none rfl) rfl rfl (ex_move rfl rfl) ?_
      refine ops_ex rfl (guard_none rfl) rfl rfl (ex_bneq rfl rfl rfl Try.underlying4) ?_
      refine ops_nil ?_
      refine at_then ?_
      refine run_cond (b := (t2763 != t2734)) rfl (fun hb2767 => ?_) (fun hb2767 => ?_)
      · replace H := cond_t hb2767 H
        refine run_seq ?_
        refine run_region rfl ?_
        refine ops_ex rfl (guard_none rfl) rfl rfl (ex_assign rfl rfl) ?_
        refine ops_nil ?_
        refine at_then ?_
        refine run_ret ?_
        refine at_then_ret ?_
        replace HM := (HM.front 0 rfl rfl).drop
        replace HM := (HM.front 0 rfl rfl).drop
        replace HM := (HM.front 0 rfl rfl).drop
        replace HM := (HM.front 0 rfl rfl).drop
        replace HM := (HM.front 0 rfl rfl).drop
        replace HM := (HM.front 0 rfl rfl).drop
        replace HM := (HM.front 0 rfl rfl).drop
        replace HM := (HM.front 0 rfl rfl).drop
        replace HM := (HM.front 0 rfl rfl).drop
        replace HM := (HM.front 0 rfl rfl).drop
        replace HM := (HM.front 0 rfl rfl).drop
        replace HM := (HM.front 0 rfl rfl).drop
        have hR := Option.some.inj H
        subst hR
        exact at_ret1 rfl rfl ⟨_, rfl, rfl, HM⟩
      · replace H := cond_f hb2767 H
        refine run_skip ?_
        refine at_then ?_
        refine run_seq ?_
        refine run_seq ?_
        obtain ⟨t2777, h2778, H⟩ := bind_some H
        obtain ⟨t2783, h2784, H⟩ := bind_some H
        refine run_drawf (fun w_ => Mem w [] w_ [box b2757 37 [.int .i64 t2751.fKind, .int .i64 t2751.fMember, u2753, u2755], own kRef 99 u2753 t2751.fIns, own kOut 102 u2755 t2751.fOuts, box b2745 37 [.int .i64 t2739.fKind, .int .i64 t2739.fMember, u2741, u2743], own kRef 99 u2741 t2739.fIns, own kOut 102 u2743 t2739.fOuts, own kRef 99 u2730 t2728.fIns, own kOut 102 u2732 t2728.fOuts, own kRef 99 u2724 t2722.fIns, own kOut 102 u2726 t2722.fOuts, box b2707 31 [.int .i64 x1.fKind, .int .i64 x1.fMember, p1_0, p1_1], box b2704 31 [.int .i64 x0.fKind, .int .i64 x0.fMember, p0_0, p0_1]]) [(0, true), (1, true), (2, false), (3, false), (4, true)] mixed rfl rfl (by kernel_rfl) ?_
        replace HM := HM.grow (fr_drew _)
        have hS := Mem.suf (M := []) HM
        refine drwp_take rfl (guard_none rfl) rfl rfl (fun w_ hS_ => (ex_loadN (cs := [(.int .i64 t2739.fKind), (.int .i64 t2739.fMember), u2741, u2743]) rfl rfl Try.underlying37 rfl tsz37 rfl ((hS_.box_at 3 rfl).sub 0 4 rfl))) hS ?_
        refine drwp_take rfl (guard_none rfl) rfl rfl (fun w_ hS_ => (ex_loadN (cs := [(.int .i64 x0.fKind), (.int .i64 x0.fMember), p0_0, p0_1]) rfl rfl Try.underlying31 rfl tsz31 rfl ((hS_.box_at 11 rfl).sub 0 4 rfl))) hS ?_
        refine drwp_one rfl (guard_none rfl) rfl rfl (does_callk rfl callok22 rfl (laws_toTx.calls (x0 := x0) (HM.rd hp0_0) (HM.rd hp0_1) h2778)) ?_
        rintro _ w2785 ⟨u2779, u2781, rfl, hn⟩
        replace HM : Mem w [] w2785 [own kRef 99 u2779 t2777.fIns, own kOut 102 u2781 t2777.fOuts, box b2757 37 [.int .i64 t2751.fKind, .int .i64 t2751.fMember, u2753, u2755], own kRef 99 u2753 t2751.fIns, own kOut 102 u2755 t2751.fOuts, box b2745 37 [.int .i64 t2739.fKind, .int .i64 t2739.fMember, u2741, u2743], own kRef 99 u2741 t2739.fIns, own kOut 102 u2743 t2739.fOuts, own kRef 99 u2730 t2728.fIns, own kOut 102 u2732 t2728.fOuts, own kRef 99 u2724 t2722.fIns, own kOut 102 u2726 t2722.fOuts, box b2707 31 [.int .i64 x1.fKind, .int .i64 x1.fMember, p1_0, p1_1], box b2704 31 [.int .i64 x0.fKind, .int .i64 x0.fMember, p0_0, p0_1]] := HM.call hn
        refine ⟨Mem.suf (M := [own kRef 99 u2779 t2777.fIns, own kOut 102 u2781 t2777.fOuts]) HM, ?_⟩
        have hS := Mem.suf (M := [own kRef 99 u2779 t2777.fIns, own kOut 102 u2781 t2777.fOuts]) HM
        refine drwp_one rfl (guard_none rfl) rfl rfl (does_callk rfl callok24 rfl (laws_eqTx.calls (x0 := t2739) (x1 := t2777) (HM.own_rd 6 rfl) (HM.own_rd 7 rfl) (HM.own_rd 0 rfl) (HM.own_rd 1 rfl) h2784)) ?_
        rintro _ w2786 ⟨rfl, hn⟩
        replace HM : Mem w [] w2786 [own kRef 99 u2779 t2777.fIns, own kOut 102 u2781 t2777.fOuts, box b2757 37 [.int .i64 t2751.fKind, .int .i64 t2751.fMember, u2753, u2755], own kRef 99 u2753 t2751.fIns, own kOut 102 u2755 t2751.fOuts, box b2745 37 [.int .i64 t2739.fKind, .int .i64 t2739.fMember, u2741, u2743], own kRef 99 u2741 t2739.fIns, own kOut 102 u2743 t2739.fOuts, own kRef 99 u2730 t2728.fIns, own kOut 102 u2732 t2728.fOuts, own kRef 99 u2724 t2722.fIns, own kOut 102 u2726 t2722.fOuts, box b2707 31 [.int .i64 x1.fKind, .int .i64 x1.fMember, p1_0, p1_1], box b2704 31 [.int .i64 x0.fKind, .int .i64 x0.fMember, p0_0, p0_1]] := HM.call hn
        refine ⟨Mem.suf (M := [own kRef 99 u2779 t2777.fIns, own kOut 102 u2781 t2777.fOuts]) HM, ?_⟩
        have hS := Mem.suf (M := [own kRef 99 u2779 t2777.fIns, own kOut 102 u2781 t2777.fOuts]) HM
        refine drwp_take rfl (guard_none rfl) rfl rfl (fun w_ hS_ => (ex_not rfl rfl)) hS ?_
        refine drwp_done ?_
        refine at_then ?_
        refine run_cond (b := !t2783) rfl (fun hb2787 => ?_) (fun hb2787 => ?_)
        · replace H := cond_t hb2787 H
          refine run_seq ?_
          refine run_region rfl ?_
          refine ops_ex rfl (guard_none rfl) rfl rfl (ex_assign rfl rfl) ?_
          refine ops_nil ?_
          refine at_then ?_
          refine run_ret ?_
          refine at_then_ret ?_
          replace HM := (HM.front 0 rfl rfl).drop
          replace HM := (HM.front 0 rfl rfl).drop
          replace HM := (HM.front 0 rfl rfl).drop
          replace HM := (HM.front 0 rfl rfl).drop
          replace HM := (HM.front 0 rfl rfl).drop
          replace HM := (HM.front 0 rfl rfl).drop
          replace HM := (HM.front 0 rfl rfl).drop
          replace HM := (HM.front 0 rfl rfl).drop
          replace HM := (HM.front 0 rfl rfl).drop
          replace HM := (HM.front 0 rfl rfl).drop
          replace HM := (HM.front 0 rfl rfl).drop
          replace HM := (HM.front 0 rfl rfl).drop
          replace HM := (HM.front 0 rfl rfl).drop
          replace HM := (HM.front 0 rfl rfl).drop
          have hR := Option.some.inj H
          subst hR
          exact at_ret1 rfl rfl ⟨_, rfl, rfl, HM⟩
        · replace H := cond_f hb2787 H
          refine run_skip ?_
          refine at_then ?_
          refine run_seq ?_
          refine run_seq ?_
          obtain ⟨t2788, h2789, H⟩ := bind_some H
          obtain ⟨t2794, h2795, H⟩ := bind_some H
          refine run_drawf (fun w_ => Mem w [] w_ [own kRef 99 u2779 t2777.fIns, own kOut 102 u2781 t2777.fOuts, box b2757 37 [.int .i64 t2751.fKind, .int .i64 t2751.fMember, u2753, u2755], own kRef 99 u2753 t2751.fIns, own kOut 102 u2755 t2751.fOuts, box b2745 37 [.int .i64 t2739.fKind, .int .i64 t2739.fMember, u2741, u2743], own kRef 99 u2741 t2739.fIns, own kOut 102 u2743 t2739.fOuts, own kRef 99 u2730 t2728.fIns, own kOut 102 u2732 t2728.fOuts, own kRef 99 u2724 t2722.fIns, own kOut 102 u2726 t2722.fOuts, box b2707 31 [.int .i64 x1.fKind, .int .i64 x1.fMember, p1_0, p1_1], box b2704 31 [.int .i64 x0.fKind, .int .i64 x0.fMember, p0_0, p0_1]]) [(0, true), (1, true), (2, false), (3, false), (4, true)] mixed rfl rfl (by kernel_rfl) ?_
          replace HM := HM.grow (fr_drew _)
          have hS := Mem.suf (M := []) HM
          refine drwp_take rfl (guard_none rfl) rfl rfl (fun w_ hS_ => (ex_loadN (cs := [(.int .i64 t2751.fKind), (.int .i64 t2751.fMember), u2753, u2755]) rfl rfl Try.underlying37 rfl tsz37 rfl ((hS_.box_at 2 rfl).sub 0 4 rfl))) hS ?_
          refine drwp_take rfl (guard_none rfl) rfl rfl (fun w_ hS_ => (ex_loadN (cs := [(.int .i64 x1.fKind), (.int .i64 x1.fMember), p1_0, p1_1]) rfl rfl Try.underlying31 rfl tsz31 rfl ((hS_.box_at 12 rfl).sub 0 4 rfl))) hS ?_
          refine drwp_one rfl (guard_none rfl) rfl rfl (does_callk rfl callok22 rfl (laws_toTx.calls (x0 := x1) (HM.rd hp1_0) (HM.rd hp1_1) h2789)) ?_
          rintro _ w2796 ⟨u2790, u2792, rfl, hn⟩
          replace HM : Mem w [] w2796 [own kRef 99 u2790 t2788.fIns, own kOut 102 u2792 t2788.fOuts, own kRef 99 u2779 t2777.fIns, own kOut 102 u2781 t2777.fOuts, box b2757 37 [.int .i64 t2751.fKind, .int .i64 t2751.fMember, u2753, u2755], own kRef 99 u2753 t2751.fIns, own kOut 102 u2755 t2751.fOuts, box b2745 37 [.int .i64 t2739.fKind, .int .i64 t2739.fMember, u2741, u2743], own kRef 99 u2741 t2739.fIns, own kOut 102 u2743 t2739.fOuts, own kRef 99 u2730 t2728.fIns, own kOut 102 u2732 t2728.fOuts, own kRef 99 u2724 t2722.fIns, own kOut 102 u2726 t2722.fOuts, box b2707 31 [.int .i64 x1.fKind, .int .i64 x1.fMember, p1_0, p1_1], box b2704 31 [.int .i64 x0.fKind, .int .i64 x0.fMember, p0_0, p0_1]] := HM.call hn
          refine ⟨Mem.suf (M := [own kRef 99 u2790 t2788.fIns, own kOut 102 u2792 t2788.fOuts]) HM, ?_⟩
          have hS := Mem.suf (M := [own kRef 99 u2790 t2788.fIns, own kOut 102 u2792 t2788.fOuts]) HM
          refine drwp_one rfl (guard_none rfl) rfl rfl (does_callk rfl callok24 rfl (laws_eqTx.calls (x0 := t2751) (x1 := t2788) (HM.own_rd 5 rfl) (HM.own_rd 6 rfl) (HM.own_rd 0 rfl) (HM.own_rd 1 rfl) h2795)) ?_
          rintro _ w2797 ⟨rfl, hn⟩
          replace HM : Mem w [] w2797 [own kRef 99 u2790 t2788.fIns, own kOut 102 u2792 t2788.fOuts, own kRef 99 u2779 t2777.fIns, own kOut 102 u2781 t2777.fOuts, box b2757 37 [.int .i64 t2751.fKind, .int .i64 t2751.fMember, u2753, u2755], own kRef 99 u2753 t2751.fIns, own kOut 102 u2755 t2751.fOuts, box b2745 37 [.int .i64 t2739.fKind, .int .i64 t2739.fMember, u2741, u2743], own kRef 99 u2741 t2739.fIns, own kOut 102 u2743 t2739.fOuts, own kRef 99 u2730 t2728.fIns, own kOut 102 u2732 t2728.fOuts, own kRef 99 u2724 t2722.fIns, own kOut 102 u2726 t2722.fOuts, box b2707 31 [.int .i64 x1.fKind, .int .i64 x1.fMember, p1_0, p1_1], box b2704 31 [.int .i64 x0.fKind, .int .i64 x0.fMember, p0_0, p0_1]] := HM.call hn
          refine ⟨Mem.suf (M := [own kRef 99 u2790 t2788.fIns, own kOut 102 u2792 t2788.fOuts]) HM, ?_⟩
          have hS := Mem.suf (M := [own kRef 99 u2790 t2788.fIns, own kOut 102 u2792 t2788.fOuts]) HM
          refine drwp_take rfl (guard_none rfl) rfl rfl (fun w_ hS_ => (ex_not rfl rfl)) hS ?_
          refine drwp_done ?_
          refine at_then ?_
          refine run_cond (b := !t2794) rfl (fun hb2798 => ?_) (fun hb2798 => ?_)
          · replace H := cond_t hb2798 H
            refine run_seq ?_
            refine run_region rfl ?_
            refine ops_ex rfl (guard_none rfl) rfl rfl (ex_assign rfl rfl) ?_
            refine ops_nil ?_
            refine at_then ?_
            refine run_ret ?_
            refine at_then_ret ?_
            replace HM := (HM.front 0 rfl rfl).drop
            replace HM := (HM.front 0 rfl rfl).drop
            replace HM := (HM.front 0 rfl rfl).drop
            replace HM := (HM.front 0 rfl rfl).drop
            replace HM := (HM.front 0 rfl rfl).drop
            replace HM := (HM.front 0 rfl rfl).drop
            replace HM := (HM.front 0 rfl rfl).drop
            replace HM := (HM.front 0 rfl rfl).drop
            replace HM := (HM.front 0 rfl rfl).drop
            replace HM := (HM.front 0 rfl rfl).drop
            replace HM := (HM.front 0 rfl rfl).drop
            replace HM := (HM.front 0 rfl rfl).drop
            replace HM := (HM.front 0 rfl rfl).drop
            replace HM := (HM.front 0 rfl rfl).drop
            replace HM := (HM.front 0 rfl rfl).drop
            replace HM := (HM.front 0 rfl rfl).drop
            have hR := Option.some.inj H
            subst hR
            exact at_ret1 rfl rfl ⟨_, rfl, rfl, HM⟩
          · replace H := cond_f hb2798 H
            refine run_skip ?_
            refine at_then ?_
            refine run_seq ?_
            refine run_region rfl ?_
            refine ops_ex rfl (guard_none rfl) rfl rfl (ex_assign rfl rfl) ?_
            refine ops_nil ?_
            refine at_then ?_
            refine run_ret ?_
            replace HM := (HM.front 0 rfl rfl).drop
            replace HM := (HM.front 0 rfl rfl).drop
            replace HM := (HM.front 0 rfl rfl).drop
            replace HM := (HM.front 0 rfl rfl).drop
            replace HM := (HM.front 0 rfl rfl).drop
            replace HM := (HM.front 0 rfl rfl).drop
            replace HM := (HM.front 0 rfl rfl).drop
            replace HM := (HM.front 0 rfl rfl).drop
            replace HM := (HM.front 0 rfl rfl).drop
            replace HM := (HM.front 0 rfl rfl).drop
            replace HM := (HM.front 0 rfl rfl).drop
            replace HM := (HM.front 0 rfl rfl).drop
            replace HM := (HM.front 0 rfl rfl).drop
            replace HM := (HM.front 0 rfl rfl).drop
            replace HM := (HM.front 0 rfl rfl).drop
            replace HM := (HM.front 0 rfl rfl).drop
            have hR := Option.some.inj H
            subst hR
            exact at_ret1 rfl rfl ⟨_, rfl, rfl, HM⟩
end Go.Proofs.Ytoiacoiccpiciaa.Zk
