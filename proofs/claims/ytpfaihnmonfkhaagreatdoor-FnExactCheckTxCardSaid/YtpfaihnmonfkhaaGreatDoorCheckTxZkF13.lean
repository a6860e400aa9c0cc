/- What functions of the program compute, each as a plain function, and that they do. Conditions: as each theorem states them. -/
import Derived.Test.YtpfaihnmonfkhaaGreatDoorCheckTxZkF12
namespace Go.Proofs.YtpfaihnmonfkhaaGreatDoor.Zk
open Go Go.RowKit Go.IntWalk Go.Proofs
set_option linter.unusedVariables false
set_option linter.unusedSimpArgs false
set_option maxRecDepth 100000
set_option maxHeartbeats 4000000
def laws_eqRefS.l0 (x0 : List Ref) (x1 : List Ref) : Nat → Int → Option (Bool ⊕ Unit)
 | 0, _ => none
 | k + 1, a9306 => (bif (decide (a9306 < (x0.length : Int))) then (chk (idxOk a9306 x0.length) (chk (idxOk a9306 x1.length) ((laws_eqRef.f k (gt x0 a9306) (gt x1 a9306)).bind fun t9322 => (bif !t9322 then some (.inl false) else laws_eqRefS.l0 x0 x1 k (wrap64 (a9306 + 1)))))) else some (.inr ()))
theorem laws_eqRefS.l0_z (x0 : List Ref) (x1 : List Ref) (a9306 : Int) : laws_eqRefS.l0 x0 x1 0 a9306 = none := rfl
theorem laws_eqRefS.l0_s (x0 : List Ref) (x1 : List Ref) (k : Nat) (a9306 : Int) : laws_eqRefS.l0 x0 x1 (k + 1) a9306 = (bif (decide (a9306 < (x0.length : Int))) then (chk (idxOk a9306 x0.length) (chk (idxOk a9306 x1.length) ((laws_eqRef.f k (gt x0 a9306) (gt x1 a9306)).bind fun t9322 => (bif !t9322 then some (.inl false) else laws_eqRefS.l0 x0 x1 k (wrap64 (a9306 + 1)))))) else some (.inr ())) := rfl
def laws_eqRefS.f (k : Nat) (x0 : List Ref) (x1 : List Ref) : Option Bool := (bif ((x0.length : Int) != (x1.length : Int)) then some false else ((laws_eqRefS.l0 x0 x1 k 0).bind fun o9296 => thn o9296 (fun r => some r) (fun _ => some true)))
theorem laws_eqRefS.calls {k : Nat} {x0 : List Ref} {x1 : List Ref} {p0 : Value} {p1 : Value} {w : World} (hp0 : RdS kRef w p0 x0) (hp1 : RdS kRef w p1 x1) {r : Bool} (H : laws_eqRefS.f k x0 x1 = some r) :
  Calls Tryz.prog 41 ([p0, p1] : List Value).toArray w (fun e w_ => ∃ v, e = .returned v ∧ v = (.bool r) ∧ Mem w [] w_ []) := by
 have HM := Mem.start w
 refine calls_run (N := 27) Tryz.func41 rfl rfl rfl rfl ?_
 unfold laws_eqRefS.f at H
 refine run_seq ?_
 refine run_region rfl ?_
 refine ox rfl rfl rfl rfl (ex_assign rfl rfl) ?_
 refine ops_nil (at_then (run_seq ?_))
 refine run_seq ?_
 refine run_region rfl ?_
 refine ox rfl rfl rfl rfl (ex_move rfl rfl) ?_
 refine ox rfl rfl rfl rfl (ex_len (d := kRef) (xs := x0) rfl rfl Tryz.underlying43 hp0) ?_
 refine ox rfl rfl rfl rfl (ex_move rfl rfl) ?_
 refine ox rfl rfl rfl rfl (ex_len (d := kRef) (xs := x1) rfl rfl Tryz.underlying43 hp1) ?_
 refine ox rfl rfl rfl rfl (ex_neq rfl rfl rfl) ?_
 refine ops_nil (at_then ?_)
 refine run_cond (b := ((x0.length : Int) != (x1.length : Int))) rfl (fun hb9270 => ?_) (fun hb9270 => ?_)
 ·replace H := cond_t hb9270 H
  refine run_seq ?_
  refine run_region rfl ?_
  refine ox rfl rfl rfl rfl (ex_assign rfl rfl) ?_
  refine ops_nil (at_then ?_)
  refine run_ret ?_
  refine at_then_ret ?_
  have hR := Option.some.inj H
  subst hR
  exact at_ret1 rfl rfl ⟨_, rfl, rfl, HM⟩
 ·replace H := cond_f hb9270 H
  refine run_skip ?_
  refine at_then ?_
  obtain ⟨o9296, ho9297, H⟩ := bind_some H
  refine run_mid (fun ρ_ w_ => Sum.inr () = o9296 ∧ ρ_ = [] ∧ Mem w [] w_ []) ?_ ?_
  ·skip
   refine run_seq ?_
   refine run_region rfl ?_
   refine ox rfl rfl rfl rfl (ex_assign rfl rfl) ?_
   refine ops_nil (at_then ?_)
   refine run_block ?_
   refine run_loop (fun k_ ρ_ w_ => ∃ a9306 : Int, laws_eqRefS.l0 x0 x1 k_ a9306 = some o9296 ∧ ρ_ = [(0, p0), (1, p1), (5, .int .i64 a9306)] ∧ Mem w [] w_ []) k (ρ1 := [(0, p0), (1, p1), (5, .int .i64 0)]) ⟨_, ho9297, rfl, HM⟩ (Sub.cons rfl (Sub.cons rfl (Sub.cons rfl Sub.nil))) ?_
   clear HM ho9297
   rintro k9315 _ w9316 ⟨a9306, ho9297, rfl, HM⟩
   obtain _ | k9315 := k9315
   ·exact nomatch ((laws_eqRefS.l0_z x0 x1 a9306).symm.trans ho9297)
   replace ho9297 := (laws_eqRefS.l0_s x0 x1 k9315 a9306).symm.trans ho9297
   refine run_seq ?_
   refine run_seq ?_
   refine run_region rfl ?_
   refine ox rfl rfl rfl rfl (ex_move rfl rfl) ?_
   refine ox rfl rfl rfl rfl (ex_move rfl rfl) ?_
   refine ox rfl rfl rfl rfl (ex_len (d := kRef) (xs := x0) rfl rfl Tryz.underlying43 hp0) ?_
   refine ox rfl rfl rfl rfl (ex_lss rfl rfl rfl) ?_
   refine ops_nil (at_then ?_)
   refine run_cond (b := (decide (a9306 < (x0.length : Int)))) rfl (fun hb9317 => ?_) (fun hb9317 => ?_)
   ·replace ho9297 := cond_t hb9317 ho9297
    refine run_skip ?_
    refine at_then ?_
    refine run_seq ?_
    refine run_block ?_
    refine run_seq ?_
    obtain ⟨e9318, ho9297⟩ := chk_some ho9297
    obtain ⟨e9320, ho9297⟩ := chk_some ho9297
    obtain ⟨t9322, h9323, ho9297⟩ := bind_some ho9297
    refine run_drawf (fun w_ => Mem w [] w_ []) [(0, true), (1, true), (2, true), (3, true), (4, true), (5, true), (6, true), (7, true), (8, false), (9, true)] mixed rfl rfl (by kernel_rfl) ?_
    replace HM := HM.grow (fr_drew _)
    have hS := Mem.suf (M := []) HM
    refine dp rfl rfl rfl rfl (ex_move rfl rfl) hS ?_
    refine dp rfl rfl rfl rfl (ex_move rfl rfl) hS ?_
    have hc9319 : CellsAt _ (sb p0) (so p0 + (a9306).toNat * 2) [(.int .i64 ((gt x0 a9306).fTx)), (.int .i64 ((gt x0 a9306).fAt))] := rd_plain hp0 e9318
    refine dp rfl rfl rfl rfl (ex_indexAddr (d := kRef) rfl rfl rfl Tryz.underlying43 tsz81 hp0 (idx_lo e9318) (idx_hi e9318)) hS ?_
    refine drwp_take rfl (guard_none rfl) rfl rfl (fun w_ hS_ => (ex_loadN (cs := [(.int .i64 ((gt x0 a9306).fTx)), (.int .i64 ((gt x0 a9306).fAt))]) rfl rfl Tryz.underlying81 rfl tsz81 rfl ((hS_.at_ hc9319).sub 0 2 rfl))) hS ?_
    refine dp rfl rfl rfl rfl (ex_move rfl rfl) hS ?_
    refine dp rfl rfl rfl rfl (ex_move rfl rfl) hS ?_
    have hc9321 : CellsAt _ (sb p1) (so p1 + (a9306).toNat * 2) [(.int .i64 ((gt x1 a9306).fTx)), (.int .i64 ((gt x1 a9306).fAt))] := rd_plain hp1 e9320
    refine dp rfl rfl rfl rfl (ex_indexAddr (d := kRef) rfl rfl rfl Tryz.underlying43 tsz81 hp1 (idx_lo e9320) (idx_hi e9320)) hS ?_
    refine drwp_take rfl (guard_none rfl) rfl rfl (fun w_ hS_ => (ex_loadN (cs := [(.int .i64 ((gt x1 a9306).fTx)), (.int .i64 ((gt x1 a9306).fAt))]) rfl rfl Tryz.underlying81 rfl tsz81 rfl ((hS_.at_ hc9321).sub 0 2 rfl))) hS ?_
    refine drwp_one rfl (guard_none rfl) rfl rfl (does_callk rfl callok82 rfl (laws_eqRef.calls (x0 := (gt x0 a9306)) (x1 := (gt x1 a9306)) h9323)) ?_
    rintro _ w9324 ⟨rfl, hn⟩
    replace HM : Mem w [] w9324 [] := HM.call hn
    have hS := Mem.suf (M := []) HM
    refine ⟨hS, ?_⟩
    refine dp rfl rfl rfl rfl (ex_not rfl rfl) hS ?_
    refine drwp_done ?_
    refine at_then ?_
    refine run_cond (b := !t9322) rfl (fun hb9325 => ?_) (fun hb9325 => ?_)
    ·replace ho9297 := cond_t hb9325 ho9297
     refine run_seq ?_
     refine run_region rfl ?_
     refine ox rfl rfl rfl rfl (ex_assign rfl rfl) ?_
     refine ops_nil (at_then ?_)
     refine run_ret ?_
     refine at_block_ret ?_
     refine at_then_ret ?_
     refine at_then_ret ?_
     refine at_block_ret ?_
     refine at_then_ret ?_
     have hR := Option.some.inj ho9297
     subst hR
     have hT := thn_inl H
     have hR := Option.some.inj hT
     subst hR
     exact at_ret1 rfl rfl ⟨_, rfl, rfl, HM⟩
    ·replace ho9297 := cond_f hb9325 ho9297
     refine run_skip ?_
     refine at_block ?_
     refine at_then ?_
     refine run_region rfl ?_
     refine ox rfl rfl rfl rfl (ex_move rfl rfl) ?_
     refine ox rfl rfl rfl rfl (ex_add rfl rfl rfl) ?_
     refine ox rfl rfl rfl rfl (ex_assign rfl rfl) ?_
     refine ops_nil ?_
     exact at_again k9315 (ρ1 := [(0, p0), (1, p1), (5, .int .i64 (wrap64 (a9306 + 1)))]) (Nat.lt_succ_self _) ⟨_, ho9297, rfl, HM⟩ (Sub.cons rfl (Sub.cons rfl (Sub.cons rfl Sub.nil)))
   ·replace ho9297 := cond_f hb9317 ho9297
    refine run_exit ?_
    refine at_then_exit ?_
    refine at_then_exit ?_
    refine at_block_exit ?_
    exact at_mid (ρ' := []) ⟨(Option.some.inj ho9297), rfl, HM⟩ Sub.nil
  ·rintro _ w9326 ⟨rfl, rfl, HM⟩
   replace H := (thn_inr H)
   refine run_seq ?_
   refine run_region rfl ?_
   refine ox rfl rfl rfl rfl (ex_assign rfl rfl) ?_
   refine ops_nil (at_then ?_)
   refine run_ret ?_
   have hR := Option.some.inj H
   subst hR
   exact at_ret1 rfl rfl ⟨_, rfl, rfl, HM⟩

def laws_eqOutS.l0 (x0 : List Out) (x1 : List Out) : Nat → Int → Option (Bool ⊕ Unit)
 | 0, _ => none
 | k + 1, a9427 => (bif (decide (a9427 < (x0.length : Int))) then (chk (idxOk a9427 x0.length) (chk (idxOk a9427 x1.length) ((laws_eqOut.f k (gt x0 a9427) (gt x1 a9427)).bind fun t9451 => (bif !t9451 then some (.inl false) else laws_eqOutS.l0 x0 x1 k (wrap64 (a9427 + 1)))))) else some (.inr ()))
theorem laws_eqOutS.l0_z (x0 : List Out) (x1 : List Out) (a9427 : Int) : laws_eqOutS.l0 x0 x1 0 a9427 = none := rfl
theorem laws_eqOutS.l0_s (x0 : List Out) (x1 : List Out) (k : Nat) (a9427 : Int) : laws_eqOutS.l0 x0 x1 (k + 1) a9427 = (bif (decide (a9427 < (x0.length : Int))) then (chk (idxOk a9427 x0.length) (chk (idxOk a9427 x1.length) ((laws_eqOut.f k (gt x0 a9427) (gt x1 a9427)).bind fun t9451 => (bif !t9451 then some (.inl false) else laws_eqOutS.l0 x0 x1 k (wrap64 (a9427 + 1)))))) else some (.inr ())) := rfl
def laws_eqOutS.f (k : Nat) (x0 : List Out) (x1 : List Out) : Option Bool := (bif ((x0.length : Int) != (x1.length : Int)) then some false else ((laws_eqOutS.l0 x0 x1 k 0).bind fun o9413 => thn o9413 (fun r => some r) (fun _ => some true)))
theorem laws_eqOutS.calls {k : Nat} {x0 : List Out} {x1 : List Out} {p0 : Value} {p1 : Value} {w : World} (hp0 : RdS kOut w p0 x0) (hp1 : RdS kOut w p1 x1) {r : Bool} (H : laws_eqOutS.f k x0 x1 = some r) :
  Calls Tryz.prog 42 ([p0, p1] : List Value).toArray w (fun e w_ => ∃ v, e = .returned v ∧ v = (.bool r) ∧ Mem w [] w_ []) := by
 have HM := Mem.start w
 refine calls_run (N := 27) Tryz.func42 rfl rfl rfl rfl ?_
 unfold laws_eqOutS.f at H
 refine run_seq ?_
 refine run_region rfl ?_
 refine ox rfl rfl rfl rfl (ex_assign rfl rfl) ?_
 refine ops_nil (at_then (run_seq ?_))
 refine run_seq ?_
 refine run_region rfl ?_
 refine ox rfl rfl rfl rfl (ex_move rfl rfl) ?_
 refine ox rfl rfl rfl rfl (ex_len (d := kOut) (xs := x0) rfl rfl Tryz.underlying44 hp0) ?_
 refine ox rfl rfl rfl rfl (ex_move rfl rfl) ?_
 refine ox rfl rfl rfl rfl (ex_len (d := kOut) (xs := x1) rfl rfl Tryz.underlying44 hp1) ?_
 refine ox rfl rfl rfl rfl (ex_neq rfl rfl rfl) ?_
 refine ops_nil (at_then ?_)
 refine run_cond (b := ((x0.length : Int) != (x1.length : Int))) rfl (fun hb9375 => ?_) (fun hb9375 => ?_)
 ·replace H := cond_t hb9375 H
  refine run_seq ?_
  refine run_region rfl ?_
  refine ox rfl rfl rfl rfl (ex_assign rfl rfl) ?_
  refine ops_nil (at_then ?_)
  refine run_ret ?_
  refine at_then_ret ?_
  have hR := Option.some.inj H
  subst hR
  exact at_ret1 rfl rfl ⟨_, rfl, rfl, HM⟩
 ·replace H := cond_f hb9375 H
  refine run_skip ?_
  refine at_then ?_
  obtain ⟨o9413, ho9414, H⟩ := bind_some H
  refine run_mid (fun ρ_ w_ => Sum.inr () = o9413 ∧ ρ_ = [] ∧ Mem w [] w_ []) ?_ ?_
  ·skip
   refine run_seq ?_
   refine run_region rfl ?_
   refine ox rfl rfl rfl rfl (ex_assign rfl rfl) ?_
   refine ops_nil (at_then ?_)
   refine run_block ?_
   refine run_loop (fun k_ ρ_ w_ => ∃ a9427 : Int, laws_eqOutS.l0 x0 x1 k_ a9427 = some o9413 ∧ ρ_ = [(0, p0), (1, p1), (5, .int .i64 a9427)] ∧ Mem w [] w_ []) k (ρ1 := [(0, p0), (1, p1), (5, .int .i64 0)]) ⟨_, ho9414, rfl, HM⟩ (Sub.cons rfl (Sub.cons rfl (Sub.cons rfl Sub.nil))) ?_
   clear HM ho9414
   rintro k9440 _ w9441 ⟨a9427, ho9414, rfl, HM⟩
   obtain _ | k9440 := k9440
   ·exact nomatch ((laws_eqOutS.l0_z x0 x1 a9427).symm.trans ho9414)
   replace ho9414 := (laws_eqOutS.l0_s x0 x1 k9440 a9427).symm.trans ho9414
   refine run_seq ?_
   refine run_seq ?_
   refine run_region rfl ?_
   refine ox rfl rfl rfl rfl (ex_move rfl rfl) ?_
   refine ox rfl rfl rfl rfl (ex_move rfl rfl) ?_
   refine ox rfl rfl rfl rfl (ex_len (d := kOut) (xs := x0) rfl rfl Tryz.underlying44 hp0) ?_
   refine ox rfl rfl rfl rfl (ex_lss rfl rfl rfl) ?_
   refine ops_nil (at_then ?_)
   refine run_cond (b := (decide (a9427 < (x0.length : Int)))) rfl (fun hb9442 => ?_) (fun hb9442 => ?_)
   ·replace ho9414 := cond_t hb9442 ho9414
    refine run_skip ?_
    refine at_then ?_
    refine run_seq ?_
    refine run_block ?_
    refine run_seq ?_
    obtain ⟨e9443, ho9414⟩ := chk_some ho9414
    obtain ⟨e9447, ho9414⟩ := chk_some ho9414
    obtain ⟨t9451, h9452, ho9414⟩ := bind_some ho9414
    refine run_drawf (fun w_ => Mem w [] w_ []) [(0, true), (1, true), (2, true), (3, true), (4, true), (5, true), (6, true), (7, true), (8, false), (9, true)] mixed rfl rfl (by kernel_rfl) ?_
    replace HM := HM.grow (fr_drew _)
    have hS := Mem.suf (M := []) HM
    refine dp rfl rfl rfl rfl (ex_move rfl rfl) hS ?_
    refine dp rfl rfl rfl rfl (ex_move rfl rfl) hS ?_
    obtain ⟨kv9445, hc9444, hk9446⟩ : ∃ u, CellsAt _ (sb p0) (so p0 + (a9427).toNat * 4) [(.int .i64 ((gt x0 a9427).fValue)), u, (.int .i64 ((gt x0 a9427).fRule.fNeed)), (.int .i64 ((gt x0 a9427).fRule.fAfter))] ∧ RdS kInt _ u ((gt x0 a9427).fRule.fKeys) := rd_with1 hp0 e9443
    refine dp rfl rfl rfl rfl (ex_indexAddr (d := kOut) rfl rfl rfl Tryz.underlying44 tsz84 hp0 (idx_lo e9443) (idx_hi e9443)) hS ?_
    refine drwp_take rfl (guard_none rfl) rfl rfl (fun w_ hS_ => (ex_loadN (cs := [(.int .i64 ((gt x0 a9427).fValue)), kv9445, (.int .i64 ((gt x0 a9427).fRule.fNeed)), (.int .i64 ((gt x0 a9427).fRule.fAfter))]) rfl rfl Tryz.underlying84 rfl tsz84 rfl ((hS_.at_ hc9444).sub 0 4 rfl))) hS ?_
    refine dp rfl rfl rfl rfl (ex_move rfl rfl) hS ?_
    refine dp rfl rfl rfl rfl (ex_move rfl rfl) hS ?_
    obtain ⟨kv9449, hc9448, hk9450⟩ : ∃ u, CellsAt _ (sb p1) (so p1 + (a9427).toNat * 4) [(.int .i64 ((gt x1 a9427).fValue)), u, (.int .i64 ((gt x1 a9427).fRule.fNeed)), (.int .i64 ((gt x1 a9427).fRule.fAfter))] ∧ RdS kInt _ u ((gt x1 a9427).fRule.fKeys) := rd_with1 hp1 e9447
    refine dp rfl rfl rfl rfl (ex_indexAddr (d := kOut) rfl rfl rfl Tryz.underlying44 tsz84 hp1 (idx_lo e9447) (idx_hi e9447)) hS ?_
    refine drwp_take rfl (guard_none rfl) rfl rfl (fun w_ hS_ => (ex_loadN (cs := [(.int .i64 ((gt x1 a9427).fValue)), kv9449, (.int .i64 ((gt x1 a9427).fRule.fNeed)), (.int .i64 ((gt x1 a9427).fRule.fAfter))]) rfl rfl Tryz.underlying84 rfl tsz84 rfl ((hS_.at_ hc9448).sub 0 4 rfl))) hS ?_
    refine drwp_one rfl (guard_none rfl) rfl rfl (does_callk rfl callok83 rfl (laws_eqOut.calls (x0 := (gt x0 a9427)) (x1 := (gt x1 a9427)) (HM.rd hk9446) (HM.rd hk9450) h9452)) ?_
    rintro _ w9453 ⟨rfl, hn⟩
    replace HM : Mem w [] w9453 [] := HM.call hn
    have hS := Mem.suf (M := []) HM
    refine ⟨hS, ?_⟩
    refine dp rfl rfl rfl rfl (ex_not rfl rfl) hS ?_
    refine drwp_done ?_
    refine at_then ?_
    refine run_cond (b := !t9451) rfl (fun hb9454 => ?_) (fun hb9454 => ?_)
    ·replace ho9414 := cond_t hb9454 ho9414
     refine run_seq ?_
     refine run_region rfl ?_
     refine ox rfl rfl rfl rfl (ex_assign rfl rfl) ?_
     refine ops_nil (at_then ?_)
     refine run_ret ?_
     refine at_block_ret ?_
     refine at_then_ret ?_
     refine at_then_ret ?_
     refine at_block_ret ?_
     refine at_then_ret ?_
     have hR := Option.some.inj ho9414
     subst hR
     have hT := thn_inl H
     have hR := Option.some.inj hT
     subst hR
     exact at_ret1 rfl rfl ⟨_, rfl, rfl, HM⟩
    ·replace ho9414 := cond_f hb9454 ho9414
     refine run_skip ?_
     refine at_block ?_
     refine at_then ?_
     refine run_region rfl ?_
     refine ox rfl rfl rfl rfl (ex_move rfl rfl) ?_
     refine ox rfl rfl rfl rfl (ex_add rfl rfl rfl) ?_
     refine ox rfl rfl rfl rfl (ex_assign rfl rfl) ?_
     refine ops_nil ?_
     exact at_again k9440 (ρ1 := [(0, p0), (1, p1), (5, .int .i64 (wrap64 (a9427 + 1)))]) (Nat.lt_succ_self _) ⟨_, ho9414, rfl, HM⟩ (Sub.cons rfl (Sub.cons rfl (Sub.cons rfl Sub.nil)))
   ·replace ho9414 := cond_f hb9442 ho9414
    refine run_exit ?_
    refine at_then_exit ?_
    refine at_then_exit ?_
    refine at_block_exit ?_
    exact at_mid (ρ' := []) ⟨(Option.some.inj ho9414), rfl, HM⟩ Sub.nil
  ·rintro _ w9455 ⟨rfl, rfl, HM⟩
   replace H := (thn_inr H)
   refine run_seq ?_
   refine run_region rfl ?_
   refine ox rfl rfl rfl rfl (ex_assign rfl rfl) ?_
   refine ops_nil (at_then ?_)
   refine run_ret ?_
   have hR := Option.some.inj H
   subst hR
   exact at_ret1 rfl rfl ⟨_, rfl, rfl, HM⟩

def laws_eqTx.f (k : Nat) (x0 : Tx) (x1 : Tx) : Option Bool := (bif (x0.fKind != x1.fKind) then some false else (bif (x0.fMember != x1.fMember) then some false else ((laws_eqRefS.f k x0.fIns x1.fIns).bind fun t9474 => (bif !t9474 then some false else ((laws_eqOutS.f k x0.fOuts x1.fOuts).bind fun t9478 => (bif !t9478 then some false else some true))))))
theorem laws_eqTx.calls {k : Nat} {x0 : Tx} {x1 : Tx} {p0_0 : Value} {p0_1 : Value} {p1_0 : Value} {p1_1 : Value} {w : World} (hp0_0 : RdS kRef w p0_0 x0.fIns) (hp0_1 : RdS kOut w p0_1 x0.fOuts) (hp1_0 : RdS kRef w p1_0 x1.fIns) (hp1_1 : RdS kOut w p1_1 x1.fOuts) {r : Bool} (H : laws_eqTx.f k x0 x1 = some r) :
  Calls Tryz.prog 15 ([.agg #[(.int .i64 x0.fKind), (.int .i64 x0.fMember), p0_0, p0_1], .agg #[(.int .i64 x1.fKind), (.int .i64 x1.fMember), p1_0, p1_1]] : List Value).toArray w (fun e w_ => ∃ v, e = .returned v ∧ v = (.bool r) ∧ Mem w [] w_ []) := by
 have HM := Mem.start w
 refine calls_run (N := 27) Tryz.func15 rfl rfl rfl rfl ?_
 unfold laws_eqTx.f at H
 refine run_seq ?_
 refine run_region rfl ?_
 refine od rfl rfl rfl rfl (does_box (cs := [.int .i64 x0.fKind, .int .i64 x0.fMember, p0_0, p0_1]) rfl rfl rfl HM) ?_
 rintro _ w9465 ⟨b9459, rfl, HM⟩
 refine od rfl rfl rfl rfl (does_box (cs := [.int .i64 x1.fKind, .int .i64 x1.fMember, p1_0, p1_1]) rfl rfl rfl HM) ?_
 rintro _ w9466 ⟨b9462, rfl, HM⟩
 refine ox rfl rfl rfl rfl (ex_assign rfl rfl) ?_
 refine ops_nil (at_then (run_seq ?_))
 refine run_seq ?_
 refine run_region rfl ?_
 refine ox rfl rfl rfl rfl (ex_fieldAddr (off' := 0) rfl rfl Tryz.underlying46 rfl tsz2 rfl) ?_
 refine ox rfl rfl rfl rfl (ex_load1 rfl rfl Tryz.underlying2 rfl ((HM.box_at 1 rfl) 0 _ rfl)) ?_
 refine ox rfl rfl rfl rfl (ex_fieldAddr (off' := 0) rfl rfl Tryz.underlying46 rfl tsz2 rfl) ?_
 refine ox rfl rfl rfl rfl (ex_load1 rfl rfl Tryz.underlying2 rfl ((HM.box_at 0 rfl) 0 _ rfl)) ?_
 refine ox rfl rfl rfl rfl (ex_neq rfl rfl rfl) ?_
 refine ops_nil (at_then ?_)
 refine run_cond (b := (x0.fKind != x1.fKind)) rfl (fun hb9468 => ?_) (fun hb9468 => ?_)
 ·replace H := cond_t hb9468 H
  refine run_seq ?_
  refine run_region rfl ?_
  refine ox rfl rfl rfl rfl (ex_assign rfl rfl) ?_
  refine ops_nil (at_then ?_)
  refine run_ret ?_
  refine at_then_ret ?_
  replace HM := (HM.front 0 rfl rfl).drop
  replace HM := (HM.front 0 rfl rfl).drop
  have hR := Option.some.inj H
  subst hR
  exact at_ret1 rfl rfl ⟨_, rfl, rfl, HM⟩
 ·replace H := cond_f hb9468 H
  refine run_skip ?_
  refine at_then ?_
  refine run_seq ?_
  refine run_seq ?_
  refine run_region rfl ?_
  refine ox rfl rfl rfl rfl (ex_fieldAddr (off' := 1) rfl rfl Tryz.underlying46 rfl tsz2 rfl) ?_
  refine ox rfl rfl rfl rfl (ex_load1 rfl rfl Tryz.underlying2 rfl ((HM.box_at 1 rfl) 1 _ rfl)) ?_
  refine ox rfl rfl rfl rfl (ex_fieldAddr (off' := 1) rfl rfl Tryz.underlying46 rfl tsz2 rfl) ?_
  refine ox rfl rfl rfl rfl (ex_load1 rfl rfl Tryz.underlying2 rfl ((HM.box_at 0 rfl) 1 _ rfl)) ?_
  refine ox rfl rfl rfl rfl (ex_neq rfl rfl rfl) ?_
  refine ops_nil (at_then ?_)
  refine run_cond (b := (x0.fMember != x1.fMember)) rfl (fun hb9470 => ?_) (fun hb9470 => ?_)
  ·replace H := cond_t hb9470 H
   refine run_seq ?_
   refine run_region rfl ?_
   refine ox rfl rfl rfl rfl (ex_assign rfl rfl) ?_
   refine ops_nil (at_then ?_)
   refine run_ret ?_
   refine at_then_ret ?_
   replace HM := (HM.front 0 rfl rfl).drop
   replace HM := (HM.front 0 rfl rfl).drop
   have hR := Option.some.inj H
   subst hR
   exact at_ret1 rfl rfl ⟨_, rfl, rfl, HM⟩
  ·replace H := cond_f hb9470 H
   refine run_skip ?_
   refine at_then ?_
   refine run_seq ?_
   refine run_seq ?_
   obtain ⟨t9474, h9475, H⟩ := bind_some H
   refine run_region rfl ?_
   refine ox rfl rfl rfl rfl (ex_fieldAddr (off' := 2) rfl rfl Tryz.underlying46 rfl tsz43 rfl) ?_
   refine ox rfl rfl rfl rfl (ex_load1 rfl rfl Tryz.underlying43 rfl ((HM.box_at 1 rfl) 2 _ rfl)) ?_
   refine ox rfl rfl rfl rfl (ex_fieldAddr (off' := 2) rfl rfl Tryz.underlying46 rfl tsz43 rfl) ?_
   refine ox rfl rfl rfl rfl (ex_load1 rfl rfl Tryz.underlying43 rfl ((HM.box_at 0 rfl) 2 _ rfl)) ?_
   refine od rfl rfl rfl rfl (does_callk rfl callok41 rfl (laws_eqRefS.calls (x0 := x0.fIns) (x1 := x1.fIns) (HM.rd hp0_0) (HM.rd hp1_0) h9475)) ?_
   rintro _ w9476 ⟨rfl, hn⟩
   replace HM : Mem w [] w9476 [box b9462 46 [.int .i64 x1.fKind, .int .i64 x1.fMember, p1_0, p1_1], box b9459 46 [.int .i64 x0.fKind, .int .i64 x0.fMember, p0_0, p0_1]] := HM.call hn
   refine ox rfl rfl rfl rfl (ex_not rfl rfl) ?_
   refine ops_nil (at_then ?_)
   refine run_cond (b := !t9474) rfl (fun hb9477 => ?_) (fun hb9477 => ?_)
   ·replace H := cond_t hb9477 H
    refine run_seq ?_
    refine run_region rfl ?_
    refine ox rfl rfl rfl rfl (ex_assign rfl rfl) ?_
    refine ops_nil (at_then ?_)
    refine run_ret ?_
    refine at_then_ret ?_
    replace HM := (HM.front 0 rfl rfl).drop
    replace HM := (HM.front 0 rfl rfl).drop
    have hR := Option.some.inj H
    subst hR
    exact at_ret1 rfl rfl ⟨_, rfl, rfl, HM⟩
   ·replace H := cond_f hb9477 H
    refine run_skip ?_
    refine at_then ?_
    refine run_seq ?_
    refine run_seq ?_
    obtain ⟨t9478, h9479, H⟩ := bind_some H
    refine run_region rfl ?_
    refine ox rfl rfl rfl rfl (ex_fieldAddr (off' := 3) rfl rfl Tryz.underlying46 rfl tsz44 rfl) ?_
    refine ox rfl rfl rfl rfl (ex_load1 rfl rfl Tryz.underlying44 rfl ((HM.box_at 1 rfl) 3 _ rfl)) ?_
    refine ox rfl rfl rfl rfl (ex_fieldAddr (off' := 3) rfl rfl Tryz.underlying46 rfl tsz44 rfl) ?_
    refine ox rfl rfl rfl rfl (ex_load1 rfl rfl Tryz.underlying44 rfl ((HM.box_at 0 rfl) 3 _ rfl)) ?_
    refine od rfl rfl rfl rfl (does_callk rfl callok42 rfl (laws_eqOutS.calls (x0 := x0.fOuts) (x1 := x1.fOuts) (HM.rd hp0_1) (HM.rd hp1_1) h9479)) ?_
    rintro _ w9480 ⟨rfl, hn⟩
    replace HM : Mem w [] w9480 [box b9462 46 [.int .i64 x1.fKind, .int .i64 x1.fMember, p1_0, p1_1], box b9459 46 [.int .i64 x0.fKind, .int .i64 x0.fMember, p0_0, p0_1]] := HM.call hn
    refine ox rfl rfl rfl rfl (ex_not rfl rfl) ?_
    refine ops_nil (at_then ?_)
    refine run_cond (b := !t9478) rfl (fun hb9481 => ?_) (fun hb9481 => ?_)
    ·replace H := cond_t hb9481 H
     refine run_seq ?_
     refine run_region rfl ?_
     refine ox rfl rfl rfl rfl (ex_assign rfl rfl) ?_
     refine ops_nil (at_then ?_)
     refine run_ret ?_
     refine at_then_ret ?_
     replace HM := (HM.front 0 rfl rfl).drop
     replace HM := (HM.front 0 rfl rfl).drop
     have hR := Option.some.inj H
     subst hR
     exact at_ret1 rfl rfl ⟨_, rfl, rfl, HM⟩
    ·replace H := cond_f hb9481 H
     refine run_skip ?_
     refine at_then ?_
     refine run_seq ?_
     refine run_region rfl ?_
     refine ox rfl rfl rfl rfl (ex_assign rfl rfl) ?_
     refine ops_nil (at_then ?_)
     refine run_ret ?_
     replace HM := (HM.front 0 rfl rfl).drop
     replace HM := (HM.front 0 rfl rfl).drop
     have hR := Option.some.inj H
     subst hR
     exact at_ret1 rfl rfl ⟨_, rfl, rfl, HM⟩

def laws_FnExactCheckTx.f (k : Nat) (x0 : Ledger) (x1 : List Coin) (x2 : Tx) (x3 : Int) : Option Bool := ((laws_szLedger.f k x0 1048576).bind fun t9493 => (bif (decide (t9493 < 0)) then some true else ((laws_szCoinS.f k x1 t9493).bind fun t9498 => (bif (decide (t9498 < 0)) then some true else ((laws_szTx.f k x2 t9498).bind fun t9503 => (bif (decide (t9503 < 0)) then some true else ((laws_toLedger.f k x0).bind fun t9508 => ((laws_toCoinS.f k x1).bind fun t9514 => ((laws_toTx.f k x2).bind fun t9518 => ((spec_CheckTx.f k t9508 t9514 t9518 x3).bind fun t9524 => ((laws_toLedger.f k x0).bind fun t9566 => ((laws_toCoinS.f k x1).bind fun t9578 => ((laws_toTx.f k x2).bind fun t9583 => ((impl_CheckTx.f k t9566 t9578 t9583 x3).bind fun t9595 => ((laws_eqIntResult.f k t9595 t9524).bind fun t9606 => (bif !t9606 then some false else ((laws_toLedger.f k x0).bind fun t9619 => ((laws_eqLedger.f k t9566 t9619).bind fun t9625 => (bif !t9625 then some false else ((laws_toCoinS.f k x1).bind fun t9637 => ((laws_eqCoinS.f k t9578 t9637).bind fun t9641 => (bif !t9641 then some false else ((laws_toTx.f k x2).bind fun t9646 => ((laws_eqTx.f k t9583 t9646).bind fun t9652 => (bif !t9652 then some false else some true)))))))))))))))))))))))))
theorem laws_FnExactCheckTx.calls {k : Nat} {x0 : Ledger} {x1 : List Coin} {x2 : Tx} {x3 : Int} {p0_0 : Value} {p0_1 : Value} {p1 : Value} {p2_0 : Value} {p2_1 : Value} {w : World} (htab : Tab w) (hp0_0 : RdS kStr w p0_0 x0.fTexts) (hp0_1 : RdS kSign w p0_1 x0.fSigns) (hp1 : RdS kCoin w p1 x1) (hp2_0 : RdS kRef w p2_0 x2.fIns) (hp2_1 : RdS kOut w p2_1 x2.fOuts) {r : Bool} (H : laws_FnExactCheckTx.f k x0 x1 x2 x3 = some r) :
  Calls Tryz.prog 3 ([.agg #[p0_0, p0_1], p1, .agg #[(.int .i64 x2.fKind), (.int .i64 x2.fMember), p2_0, p2_1], .int .i64 x3] : List Value).toArray w (fun e w_ => ∃ v, e = .returned v ∧ v = (.bool r) ∧ Mem w [] w_ []) := by
 have HM := Mem.start w
 refine calls_run (N := 68) Tryz.func3 rfl rfl rfl rfl ?_
 unfold laws_FnExactCheckTx.f at H
 refine run_seq ?_
 refine run_region rfl ?_
 refine od rfl rfl rfl rfl (does_box (cs := [p0_0, p0_1]) rfl rfl rfl HM) ?_
 rintro _ w9491 ⟨b9485, rfl, HM⟩
 refine od rfl rfl rfl rfl (does_box (cs := [.int .i64 x2.fKind, .int .i64 x2.fMember, p2_0, p2_1]) rfl rfl rfl HM) ?_
 rintro _ w9492 ⟨b9488, rfl, HM⟩
 refine ox rfl rfl rfl rfl (ex_assign rfl rfl) ?_
 refine ops_nil (at_then (run_seq ?_))
 refine run_region rfl ?_
 refine ox rfl rfl rfl rfl (ex_assign rfl rfl) ?_
 refine ops_nil (at_then (run_seq ?_))
 obtain ⟨t9493, h9494, H⟩ := bind_some H
 refine run_region rfl ?_
 refine ox rfl rfl rfl rfl (ex_loadN (cs := [p0_0, p0_1]) rfl rfl Tryz.underlying25 rfl tsz25 rfl ((HM.box_at 1 rfl).sub 0 2 rfl)) ?_
 refine ox rfl rfl rfl rfl (ex_move rfl rfl) ?_
 refine od rfl rfl rfl rfl (does_callk rfl callok4 rfl (laws_szLedger.calls (x0 := x0) (x1 := 1048576) (HM.rd hp0_0) (HM.rd hp0_1) h9494)) ?_
 rintro _ w9495 ⟨rfl, hn⟩
 replace HM : Mem w [] w9495 [box b9488 30 [.int .i64 x2.fKind, .int .i64 x2.fMember, p2_0, p2_1], box b9485 25 [p0_0, p0_1]] := HM.call hn
 refine ox rfl rfl rfl rfl (ex_assign rfl rfl) ?_
 refine ops_nil (at_then (run_seq ?_))
 refine run_seq ?_
 refine run_region rfl ?_
 refine ox rfl rfl rfl rfl (ex_move rfl rfl) ?_
 refine ox rfl rfl rfl rfl (ex_lss rfl rfl rfl) ?_
 refine ops_nil (at_then ?_)
 refine run_cond (b := (decide (t9493 < 0))) rfl (fun hb9497 => ?_) (fun hb9497 => ?_)
 ·replace H := cond_t hb9497 H
  refine run_seq ?_
  refine run_region rfl ?_
  refine ox rfl rfl rfl rfl (ex_assign rfl rfl) ?_
  refine ops_nil (at_then ?_)
  refine run_ret ?_
  refine at_then_ret ?_
  replace HM := (HM.front 0 rfl rfl).drop
  replace HM := (HM.front 0 rfl rfl).drop
  have hR := Option.some.inj H
  subst hR
  exact at_ret1 rfl rfl ⟨_, rfl, rfl, HM⟩
 ·replace H := cond_f hb9497 H
  refine run_skip ?_
  refine at_then ?_
  refine run_seq ?_
  obtain ⟨t9498, h9499, H⟩ := bind_some H
  refine run_region rfl ?_
  refine ox rfl rfl rfl rfl (ex_move rfl rfl) ?_
  refine ox rfl rfl rfl rfl (ex_move rfl rfl) ?_
  refine od rfl rfl rfl rfl (does_callk rfl callok5 rfl (laws_szCoinS.calls (x0 := x1) (x1 := t9493) (HM.rd hp1) h9499)) ?_
  rintro _ w9500 ⟨rfl, hn⟩
  replace HM : Mem w [] w9500 [box b9488 30 [.int .i64 x2.fKind, .int .i64 x2.fMember, p2_0, p2_1], box b9485 25 [p0_0, p0_1]] := HM.call hn
  refine ox rfl rfl rfl rfl (ex_assign rfl rfl) ?_
  refine ops_nil (at_then (run_seq ?_))
  refine run_seq ?_
  refine run_region rfl ?_
  refine ox rfl rfl rfl rfl (ex_move rfl rfl) ?_
  refine ox rfl rfl rfl rfl (ex_lss rfl rfl rfl) ?_
  refine ops_nil (at_then ?_)
  refine run_cond (b := (decide (t9498 < 0))) rfl (fun hb9502 => ?_) (fun hb9502 => ?_)
  ·replace H := cond_t hb9502 H
   refine run_seq ?_
   refine run_region rfl ?_
   refine ox rfl rfl rfl rfl (ex_assign rfl rfl) ?_
   refine ops_nil (at_then ?_)
   refine run_ret ?_
   refine at_then_ret ?_
   replace HM := (HM.front 0 rfl rfl).drop
   replace HM := (HM.front 0 rfl rfl).drop
   have hR := Option.some.inj H
   subst hR
   exact at_ret1 rfl rfl ⟨_, rfl, rfl, HM⟩
  ·replace H := cond_f hb9502 H
   refine run_skip ?_
   refine at_then ?_
   refine run_seq ?_
   obtain ⟨t9503, h9504, H⟩ := bind_some H
   refine run_region rfl ?_
   refine ox rfl rfl rfl rfl (ex_loadN (cs := [(.int .i64 x2.fKind), (.int .i64 x2.fMember), p2_0, p2_1]) rfl rfl Tryz.underlying30 rfl tsz30 rfl ((HM.box_at 0 rfl).sub 0 4 rfl)) ?_
   refine ox rfl rfl rfl rfl (ex_move rfl rfl) ?_
   refine od rfl rfl rfl rfl (does_callk rfl callok6 rfl (laws_szTx.calls (x0 := x2) (x1 := t9498) (HM.rd hp2_0) (HM.rd hp2_1) h9504)) ?_
   rintro _ w9505 ⟨rfl, hn⟩
   replace HM : Mem w [] w9505 [box b9488 30 [.int .i64 x2.fKind, .int .i64 x2.fMember, p2_0, p2_1], box b9485 25 [p0_0, p0_1]] := HM.call hn
   refine ox rfl rfl rfl rfl (ex_assign rfl rfl) ?_
   refine ops_nil (at_then (run_seq ?_))
   refine run_seq ?_
   refine run_region rfl ?_
   refine ox rfl rfl rfl rfl (ex_move rfl rfl) ?_
   refine ox rfl rfl rfl rfl (ex_lss rfl rfl rfl) ?_
   refine ops_nil (at_then ?_)
   refine run_cond (b := (decide (t9503 < 0))) rfl (fun hb9507 => ?_) (fun hb9507 => ?_)
   ·replace H := cond_t hb9507 H
    refine run_seq ?_
    refine run_region rfl ?_
    refine ox rfl rfl rfl rfl (ex_assign rfl rfl) ?_
    refine ops_nil (at_then ?_)
    refine run_ret ?_
    refine at_then_ret ?_
    replace HM := (HM.front 0 rfl rfl).drop
    replace HM := (HM.front 0 rfl rfl).drop
    have hR := Option.some.inj H
    subst hR
    exact at_ret1 rfl rfl ⟨_, rfl, rfl, HM⟩
   ·replace H := cond_f hb9507 H
    refine run_skip ?_
    refine at_then ?_
    refine run_seq ?_
    obtain ⟨t9508, h9509, H⟩ := bind_some H
    obtain ⟨t9514, h9515, H⟩ := bind_some H
    obtain ⟨t9518, h9519, H⟩ := bind_some H
    obtain ⟨t9524, h9525, H⟩ := bind_some H
    refine run_meet (fun ρ_ w_ => ∃ b9526 : Nat, ρ_ = [(1, p1), (3, .int .i64 x3), (4, .pointer (some ⟨b9485, 0, none⟩)), (6, .pointer (some ⟨b9488, 0, none⟩)), (10, .pointer (some ⟨b9526, 0, none⟩))] ∧ Mem w [] w_ [box b9485 25 [p0_0, p0_1], box b9488 30 [.int .i64 x2.fKind, .int .i64 x2.fMember, p2_0, p2_1], box b9526 35 [.int .i64 t9524.fCode, .int .i64 t9524.fValue]]) ?_ ?_
    ·skip
     refine run_draw (fun w_ => Mem w [] w_ [box b9488 30 [.int .i64 x2.fKind, .int .i64 x2.fMember, p2_0, p2_1], box b9485 25 [p0_0, p0_1]]) mixed rfl (l := #[false, false, false, false, false, false, false, false, false, false]) rfl ?_
     replace HM := HM.grow (fr_drew _)
     have hS := Mem.suf (M := []) HM
     refine drw_cut3 (l' := #[true, true, true, false, true, false, true, false, true, false]) (f' := 4) (fun (u9510 : Value) => fun (u9512 : Value) => fun (b9526 : Nat) => [(1, p1), (3, .int .i64 x3), (4, .pointer (some ⟨b9485, 0, none⟩)), (6, .pointer (some ⟨b9488, 0, none⟩)), (32, p1), (34, .agg #[(.int .i64 x2.fKind), (.int .i64 x2.fMember), p2_0, p2_1]), (36, .int .i64 x3), (31, .agg #[u9510, u9512]), (10, .pointer (some ⟨b9526, 0, none⟩))]) (fun (u9510 : Value) => fun (u9512 : Value) => fun (b9526 : Nat) => fun w_ => Mem w [] w_ [box b9526 35 [.int .i64 0, .int .i64 0], own kStr 9 u9510 t9508.fTexts, own kSign 100 u9512 t9508.fSigns, box b9488 30 [.int .i64 x2.fKind, .int .i64 x2.fMember, p2_0, p2_1], box b9485 25 [p0_0, p0_1]]) ?_ (fun K9543 => ?_)
     ·rintro u9510 u9512 b9526 w9544 HM
      replace HM : Mem w [] w9544 [box b9526 35 [.int .i64 0, .int .i64 0], own kStr 9 u9510 t9508.fTexts, own kSign 100 u9512 t9508.fSigns, box b9488 30 [.int .i64 x2.fKind, .int .i64 x2.fMember, p2_0, p2_1], box b9485 25 [p0_0, p0_1]] := HM
      have hS := Mem.suf (M := [box b9526 35 [.int .i64 0, .int .i64 0], own kStr 9 u9510 t9508.fTexts, own kSign 100 u9512 t9508.fSigns]) HM
      refine drw_any [3] (by kernel_rfl) rfl (.cons ?_ .nil)
      refine br_does (l' := #[true, true, true, true, true, false, true, false, true, false]) rfl (guard_none rfl) rfl rfl (by kernel_rfl) (does_callk rfl callok9 rfl (laws_toCoinS.calls (x0 := x1) (HM.rd hp1) h9515)) ?_
      rintro u9516 w9545 ⟨_, rfl, hn⟩
      replace HM : Mem w [] w9545 [own kCoin 86 u9516 t9514, box b9526 35 [.int .i64 0, .int .i64 0], own kStr 9 u9510 t9508.fTexts, own kSign 100 u9512 t9508.fSigns, box b9488 30 [.int .i64 x2.fKind, .int .i64 x2.fMember, p2_0, p2_1], box b9485 25 [p0_0, p0_1]] := HM.call hn
      have hS := Mem.suf (M := [own kCoin 86 u9516 t9514, box b9526 35 [.int .i64 0, .int .i64 0], own kStr 9 u9510 t9508.fTexts, own kSign 100 u9512 t9508.fSigns]) HM
      refine ⟨hS, ?_⟩
      refine drw_any [5] (by kernel_rfl) rfl (.cons ?_ .nil)
      refine br_does (l' := #[true, true, true, true, true, true, true, false, true, false]) rfl (guard_none rfl) rfl rfl (by kernel_rfl) (does_callk rfl callok10 rfl (laws_toTx.calls (x0 := x2) (HM.rd hp2_0) (HM.rd hp2_1) h9519)) ?_
      rintro _ w9546 ⟨u9520, u9522, rfl, hn⟩
      replace HM : Mem w [] w9546 [own kRef 81 u9520 t9518.fIns, own kOut 84 u9522 t9518.fOuts, own kCoin 86 u9516 t9514, box b9526 35 [.int .i64 0, .int .i64 0], own kStr 9 u9510 t9508.fTexts, own kSign 100 u9512 t9508.fSigns, box b9488 30 [.int .i64 x2.fKind, .int .i64 x2.fMember, p2_0, p2_1], box b9485 25 [p0_0, p0_1]] := HM.call hn
      have hS := Mem.suf (M := [own kRef 81 u9520 t9518.fIns, own kOut 84 u9522 t9518.fOuts, own kCoin 86 u9516 t9514, box b9526 35 [.int .i64 0, .int .i64 0], own kStr 9 u9510 t9508.fTexts, own kSign 100 u9512 t9508.fSigns]) HM
      refine ⟨hS, ?_⟩
      refine drw_any [7] (by kernel_rfl) rfl (.cons ?_ .nil)
      refine br_does (l' := #[true, true, true, true, true, true, true, true, true, false]) rfl (guard_none rfl) rfl rfl (by kernel_rfl) (does_callk rfl callok7 rfl (spec_CheckTx.calls (x0 := t9508) (x1 := t9514) (x2 := t9518) (x3 := x3) (HM.own_rd 4 rfl) (HM.own_rd 5 rfl) (HM.own_rd 2 rfl) (HM.own_rd 0 rfl) (HM.own_rd 1 rfl) h9525)) ?_
      rintro _ w9547 ⟨rfl, hn⟩
      replace HM : Mem w [] w9547 [own kRef 81 u9520 t9518.fIns, own kOut 84 u9522 t9518.fOuts, own kCoin 86 u9516 t9514, box b9526 35 [.int .i64 0, .int .i64 0], own kStr 9 u9510 t9508.fTexts, own kSign 100 u9512 t9508.fSigns, box b9488 30 [.int .i64 x2.fKind, .int .i64 x2.fMember, p2_0, p2_1], box b9485 25 [p0_0, p0_1]] := HM.call hn
      have hS := Mem.suf (M := [own kRef 81 u9520 t9518.fIns, own kOut 84 u9522 t9518.fOuts, own kCoin 86 u9516 t9514, box b9526 35 [.int .i64 0, .int .i64 0], own kStr 9 u9510 t9508.fTexts, own kSign 100 u9512 t9508.fSigns]) HM
      refine ⟨hS, ?_⟩
      replace HM := HM.front 3 rfl rfl
      refine drw_any [9] (by kernel_rfl) rfl (.cons ?_ .nil)
      refine br_doesS (l' := #[true, true, true, true, true, true, true, true, true, true]) rfl (guard_none rfl) rfl (by kernel_rfl) (does_store (vs := [.int .i64 t9524.fCode, .int .i64 t9524.fValue]) (cs' := [.int .i64 t9524.fCode, .int .i64 t9524.fValue]) rfl rfl rfl rfl tsz35 (Ones.int (Ones.int Ones.nil)) rfl rfl HM) ?_
      rintro w9548 HM
      have hS := Mem.suf (M := [box b9526 35 [.int .i64 t9524.fCode, .int .i64 t9524.fValue], own kRef 81 u9520 t9518.fIns, own kOut 84 u9522 t9518.fOuts, own kCoin 86 u9516 t9514, own kStr 9 u9510 t9508.fTexts, own kSign 100 u9512 t9508.fSigns]) HM
      refine ⟨hS, ?_⟩
      refine drw_done (by kernel_rfl) ?_
      replace HM := (HM.front 1 rfl rfl).drop
      replace HM := (HM.front 1 rfl rfl).drop
      replace HM := (HM.front 1 rfl rfl).drop
      replace HM := (HM.front 1 rfl rfl).drop
      replace HM := (HM.front 1 rfl rfl).drop
      replace HM := HM.front 1 rfl rfl
      replace HM := HM.front 2 rfl rfl
      exact at_meet [(1, p1), (3, .int .i64 x3), (4, .pointer (some ⟨b9485, 0, none⟩)), (6, .pointer (some ⟨b9488, 0, none⟩)), (10, .pointer (some ⟨b9526, 0, none⟩))] ⟨_, rfl, HM⟩ (Sub.cons rfl (Sub.cons rfl (Sub.cons rfl (Sub.cons rfl (Sub.cons rfl Sub.nil)))))
     refine drw_take (i := 0) (l' := #[true, false, false, false, false, false, false, false, false, false]) rfl (guard_none rfl) rfl rfl (by kernel_rfl) (fun w_ hS_ => (ex_loadN (cs := [p0_0, p0_1]) rfl rfl Tryz.underlying25 rfl tsz25 rfl ((hS_.box_at 1 rfl).sub 0 2 rfl))) hS ?_
     refine dt 2 #[true, false, true, false, false, false, false, false, false, false] rfl rfl rfl rfl (by kernel_rfl) (ex_move rfl rfl) hS ?_
     refine drw_take (i := 4) (l' := #[true, false, true, false, true, false, false, false, false, false]) rfl (guard_none rfl) rfl rfl (by kernel_rfl) (fun w_ hS_ => (ex_loadN (cs := [(.int .i64 x2.fKind), (.int .i64 x2.fMember), p2_0, p2_1]) rfl rfl Tryz.underlying30 rfl tsz30 rfl ((hS_.box_at 0 rfl).sub 0 4 rfl))) hS ?_
     refine dt 6 #[true, false, true, false, true, false, true, false, false, false] rfl rfl rfl rfl (by kernel_rfl) (ex_move rfl rfl) hS ?_
     refine drw_any [1, 8] (by kernel_rfl) rfl (.cons ?_ (.cons ?_ .nil))
     ·skip
      refine br_does (l' := #[true, true, true, false, true, false, true, false, false, false]) rfl (guard_none rfl) rfl rfl (by kernel_rfl) (does_callk rfl callok8 rfl (laws_toLedger.calls (x0 := x0) (HM.rd hp0_0) (HM.rd hp0_1) h9509)) ?_
      rintro _ w9549 ⟨u9510, u9512, rfl, hn⟩
      replace HM : Mem w [] w9549 [own kStr 9 u9510 t9508.fTexts, own kSign 100 u9512 t9508.fSigns, box b9488 30 [.int .i64 x2.fKind, .int .i64 x2.fMember, p2_0, p2_1], box b9485 25 [p0_0, p0_1]] := HM.call hn
      have hS := Mem.suf (M := [own kStr 9 u9510 t9508.fTexts, own kSign 100 u9512 t9508.fSigns]) HM
      refine ⟨hS, ?_⟩
      refine drw_any [3, 8] (by kernel_rfl) rfl (.cons ?_ (.cons ?_ .nil))
      ·skip
       refine br_does (l' := #[true, true, true, true, true, false, true, false, false, false]) rfl (guard_none rfl) rfl rfl (by kernel_rfl) (does_callk rfl callok9 rfl (laws_toCoinS.calls (x0 := x1) (HM.rd hp1) h9515)) ?_
       rintro u9516 w9550 ⟨_, rfl, hn⟩
       replace HM : Mem w [] w9550 [own kCoin 86 u9516 t9514, own kStr 9 u9510 t9508.fTexts, own kSign 100 u9512 t9508.fSigns, box b9488 30 [.int .i64 x2.fKind, .int .i64 x2.fMember, p2_0, p2_1], box b9485 25 [p0_0, p0_1]] := HM.call hn
       have hS := Mem.suf (M := [own kCoin 86 u9516 t9514, own kStr 9 u9510 t9508.fTexts, own kSign 100 u9512 t9508.fSigns]) HM
       refine ⟨hS, ?_⟩
       refine drw_any [5, 8] (by kernel_rfl) rfl (.cons ?_ (.cons ?_ .nil))
       ·skip
        refine br_does (l' := #[true, true, true, true, true, true, true, false, false, false]) rfl (guard_none rfl) rfl rfl (by kernel_rfl) (does_callk rfl callok10 rfl (laws_toTx.calls (x0 := x2) (HM.rd hp2_0) (HM.rd hp2_1) h9519)) ?_
        rintro _ w9551 ⟨u9520, u9522, rfl, hn⟩
        replace HM : Mem w [] w9551 [own kRef 81 u9520 t9518.fIns, own kOut 84 u9522 t9518.fOuts, own kCoin 86 u9516 t9514, own kStr 9 u9510 t9508.fTexts, own kSign 100 u9512 t9508.fSigns, box b9488 30 [.int .i64 x2.fKind, .int .i64 x2.fMember, p2_0, p2_1], box b9485 25 [p0_0, p0_1]] := HM.call hn
        have hS := Mem.suf (M := [own kRef 81 u9520 t9518.fIns, own kOut 84 u9522 t9518.fOuts, own kCoin 86 u9516 t9514, own kStr 9 u9510 t9508.fTexts, own kSign 100 u9512 t9508.fSigns]) HM
        refine ⟨hS, ?_⟩
        refine drw_any [7, 8] (by kernel_rfl) rfl (.cons ?_ (.cons ?_ .nil))
        ·skip
         refine br_does (l' := #[true, true, true, true, true, true, true, true, false, false]) rfl (guard_none rfl) rfl rfl (by kernel_rfl) (does_callk rfl callok7 rfl (spec_CheckTx.calls (x0 := t9508) (x1 := t9514) (x2 := t9518) (x3 := x3) (HM.own_rd 3 rfl) (HM.own_rd 4 rfl) (HM.own_rd 2 rfl) (HM.own_rd 0 rfl) (HM.own_rd 1 rfl) h9525)) ?_
         rintro _ w9552 ⟨rfl, hn⟩
         replace HM : Mem w [] w9552 [own kRef 81 u9520 t9518.fIns, own kOut 84 u9522 t9518.fOuts, own kCoin 86 u9516 t9514, own kStr 9 u9510 t9508.fTexts, own kSign 100 u9512 t9508.fSigns, box b9488 30 [.int .i64 x2.fKind, .int .i64 x2.fMember, p2_0, p2_1], box b9485 25 [p0_0, p0_1]] := HM.call hn
         have hS := Mem.suf (M := [own kRef 81 u9520 t9518.fIns, own kOut 84 u9522 t9518.fOuts, own kCoin 86 u9516 t9514, own kStr 9 u9510 t9508.fTexts, own kSign 100 u9512 t9508.fSigns]) HM
         refine ⟨hS, ?_⟩
         refine drw_any [8] (by kernel_rfl) rfl (.cons ?_ .nil)
         refine br_does (l' := #[true, true, true, true, true, true, true, true, true, false]) rfl (guard_none rfl) rfl rfl (by kernel_rfl) (does_alloc (cs := [.int .i64 0, .int .i64 0]) rfl tz35 rfl HM) ?_
         rintro _ w9553 ⟨b9526, rfl, HM⟩
         have hS := Mem.suf (M := [box b9526 35 [.int .i64 0, .int .i64 0], own kRef 81 u9520 t9518.fIns, own kOut 84 u9522 t9518.fOuts, own kCoin 86 u9516 t9514, own kStr 9 u9510 t9508.fTexts, own kSign 100 u9512 t9508.fSigns]) HM
         refine ⟨hS, ?_⟩
         refine drw_any [9] (by kernel_rfl) rfl (.cons ?_ .nil)
         refine br_doesS (l' := #[true, true, true, true, true, true, true, true, true, true]) rfl (guard_none rfl) rfl (by kernel_rfl) (does_store (vs := [.int .i64 t9524.fCode, .int .i64 t9524.fValue]) (cs' := [.int .i64 t9524.fCode, .int .i64 t9524.fValue]) rfl rfl rfl rfl tsz35 (Ones.int (Ones.int Ones.nil)) rfl rfl HM) ?_
         rintro w9554 HM
         have hS := Mem.suf (M := [box b9526 35 [.int .i64 t9524.fCode, .int .i64 t9524.fValue], own kRef 81 u9520 t9518.fIns, own kOut 84 u9522 t9518.fOuts, own kCoin 86 u9516 t9514, own kStr 9 u9510 t9508.fTexts, own kSign 100 u9512 t9508.fSigns]) HM
         refine ⟨hS, ?_⟩
         refine drw_done (by kernel_rfl) ?_
         replace HM := (HM.front 1 rfl rfl).drop
         replace HM := (HM.front 1 rfl rfl).drop
         replace HM := (HM.front 1 rfl rfl).drop
         replace HM := (HM.front 1 rfl rfl).drop
         replace HM := (HM.front 1 rfl rfl).drop
         replace HM := HM.front 1 rfl rfl
         replace HM := HM.front 2 rfl rfl
         exact at_meet [(1, p1), (3, .int .i64 x3), (4, .pointer (some ⟨b9485, 0, none⟩)), (6, .pointer (some ⟨b9488, 0, none⟩)), (10, .pointer (some ⟨b9526, 0, none⟩))] ⟨_, rfl, HM⟩ (Sub.cons rfl (Sub.cons rfl (Sub.cons rfl (Sub.cons rfl (Sub.cons rfl Sub.nil)))))
        ·skip
         refine br_does (l' := #[true, true, true, true, true, true, true, false, true, false]) rfl (guard_none rfl) rfl rfl (by kernel_rfl) (does_alloc (cs := [.int .i64 0, .int .i64 0]) rfl tz35 rfl HM) ?_
         rintro _ w9555 ⟨b9526, rfl, HM⟩
         have hS := Mem.suf (M := [box b9526 35 [.int .i64 0, .int .i64 0], own kRef 81 u9520 t9518.fIns, own kOut 84 u9522 t9518.fOuts, own kCoin 86 u9516 t9514, own kStr 9 u9510 t9508.fTexts, own kSign 100 u9512 t9508.fSigns]) HM
         refine ⟨hS, ?_⟩
         refine drw_any [7] (by kernel_rfl) rfl (.cons ?_ .nil)
         refine br_does (l' := #[true, true, true, true, true, true, true, true, true, false]) rfl (guard_none rfl) rfl rfl (by kernel_rfl) (does_callk rfl callok7 rfl (spec_CheckTx.calls (x0 := t9508) (x1 := t9514) (x2 := t9518) (x3 := x3) (HM.own_rd 4 rfl) (HM.own_rd 5 rfl) (HM.own_rd 3 rfl) (HM.own_rd 1 rfl) (HM.own_rd 2 rfl) h9525)) ?_
         rintro _ w9556 ⟨rfl, hn⟩
         replace HM : Mem w [] w9556 [box b9526 35 [.int .i64 0, .int .i64 0], own kRef 81 u9520 t9518.fIns, own kOut 84 u9522 t9518.fOuts, own kCoin 86 u9516 t9514, own kStr 9 u9510 t9508.fTexts, own kSign 100 u9512 t9508.fSigns, box b9488 30 [.int .i64 x2.fKind, .int .i64 x2.fMember, p2_0, p2_1], box b9485 25 [p0_0, p0_1]] := HM.call hn
         have hS := Mem.suf (M := [box b9526 35 [.int .i64 0, .int .i64 0], own kRef 81 u9520 t9518.fIns, own kOut 84 u9522 t9518.fOuts, own kCoin 86 u9516 t9514, own kStr 9 u9510 t9508.fTexts, own kSign 100 u9512 t9508.fSigns]) HM
         refine ⟨hS, ?_⟩
         refine drw_any [9] (by kernel_rfl) rfl (.cons ?_ .nil)
         refine br_doesS (l' := #[true, true, true, true, true, true, true, true, true, true]) rfl (guard_none rfl) rfl (by kernel_rfl) (does_store (vs := [.int .i64 t9524.fCode, .int .i64 t9524.fValue]) (cs' := [.int .i64 t9524.fCode, .int .i64 t9524.fValue]) rfl rfl rfl rfl tsz35 (Ones.int (Ones.int Ones.nil)) rfl rfl HM) ?_
         rintro w9557 HM
         have hS := Mem.suf (M := [box b9526 35 [.int .i64 t9524.fCode, .int .i64 t9524.fValue], own kRef 81 u9520 t9518.fIns, own kOut 84 u9522 t9518.fOuts, own kCoin 86 u9516 t9514, own kStr 9 u9510 t9508.fTexts, own kSign 100 u9512 t9508.fSigns]) HM
         refine ⟨hS, ?_⟩
         refine drw_done (by kernel_rfl) ?_
         replace HM := (HM.front 1 rfl rfl).drop
         replace HM := (HM.front 1 rfl rfl).drop
         replace HM := (HM.front 1 rfl rfl).drop
         replace HM := (HM.front 1 rfl rfl).drop
         replace HM := (HM.front 1 rfl rfl).drop
         replace HM := HM.front 1 rfl rfl
         replace HM := HM.front 2 rfl rfl
         exact at_meet [(1, p1), (3, .int .i64 x3), (4, .pointer (some ⟨b9485, 0, none⟩)), (6, .pointer (some ⟨b9488, 0, none⟩)), (10, .pointer (some ⟨b9526, 0, none⟩))] ⟨_, rfl, HM⟩ (Sub.cons rfl (Sub.cons rfl (Sub.cons rfl (Sub.cons rfl (Sub.cons rfl Sub.nil)))))
       ·skip
        refine br_does (l' := #[true, true, true, true, true, false, true, false, true, false]) rfl (guard_none rfl) rfl rfl (by kernel_rfl) (does_alloc (cs := [.int .i64 0, .int .i64 0]) rfl tz35 rfl HM) ?_
        rintro _ w9558 ⟨b9526, rfl, HM⟩
        have hS := Mem.suf (M := [box b9526 35 [.int .i64 0, .int .i64 0], own kCoin 86 u9516 t9514, own kStr 9 u9510 t9508.fTexts, own kSign 100 u9512 t9508.fSigns]) HM
        refine ⟨hS, ?_⟩
        refine drw_any [5] (by kernel_rfl) rfl (.cons ?_ .nil)
        refine br_does (l' := #[true, true, true, true, true, true, true, false, true, false]) rfl (guard_none rfl) rfl rfl (by kernel_rfl) (does_callk rfl callok10 rfl (laws_toTx.calls (x0 := x2) (HM.rd hp2_0) (HM.rd hp2_1) h9519)) ?_
        rintro _ w9559 ⟨u9520, u9522, rfl, hn⟩
        replace HM : Mem w [] w9559 [own kRef 81 u9520 t9518.fIns, own kOut 84 u9522 t9518.fOuts, box b9526 35 [.int .i64 0, .int .i64 0], own kCoin 86 u9516 t9514, own kStr 9 u9510 t9508.fTexts, own kSign 100 u9512 t9508.fSigns, box b9488 30 [.int .i64 x2.fKind, .int .i64 x2.fMember, p2_0, p2_1], box b9485 25 [p0_0, p0_1]] := HM.call hn
        have hS := Mem.suf (M := [own kRef 81 u9520 t9518.fIns, own kOut 84 u9522 t9518.fOuts, box b9526 35 [.int .i64 0, .int .i64 0], own kCoin 86 u9516 t9514, own kStr 9 u9510 t9508.fTexts, own kSign 100 u9512 t9508.fSigns]) HM
        refine ⟨hS, ?_⟩
        refine drw_any [7] (by kernel_rfl) rfl (.cons ?_ .nil)
        refine br_does (l' := #[true, true, true, true, true, true, true, true, true, false]) rfl (guard_none rfl) rfl rfl (by kernel_rfl) (does_callk rfl callok7 rfl (spec_CheckTx.calls (x0 := t9508) (x1 := t9514) (x2 := t9518) (x3 := x3) (HM.own_rd 4 rfl) (HM.own_rd 5 rfl) (HM.own_rd 3 rfl) (HM.own_rd 0 rfl) (HM.own_rd 1 rfl) h9525)) ?_
        rintro _ w9560 ⟨rfl, hn⟩
        replace HM : Mem w [] w9560 [own kRef 81 u9520 t9518.fIns, own kOut 84 u9522 t9518.fOuts, box b9526 35 [.int .i64 0, .int .i64 0], own kCoin 86 u9516 t9514, own kStr 9 u9510 t9508.fTexts, own kSign 100 u9512 t9508.fSigns, box b9488 30 [.int .i64 x2.fKind, .int .i64 x2.fMember, p2_0, p2_1], box b9485 25 [p0_0, p0_1]] := HM.call hn
        have hS := Mem.suf (M := [own kRef 81 u9520 t9518.fIns, own kOut 84 u9522 t9518.fOuts, box b9526 35 [.int .i64 0, .int .i64 0], own kCoin 86 u9516 t9514, own kStr 9 u9510 t9508.fTexts, own kSign 100 u9512 t9508.fSigns]) HM
        refine ⟨hS, ?_⟩
        replace HM := HM.front 2 rfl rfl
        refine drw_any [9] (by kernel_rfl) rfl (.cons ?_ .nil)
        refine br_doesS (l' := #[true, true, true, true, true, true, true, true, true, true]) rfl (guard_none rfl) rfl (by kernel_rfl) (does_store (vs := [.int .i64 t9524.fCode, .int .i64 t9524.fValue]) (cs' := [.int .i64 t9524.fCode, .int .i64 t9524.fValue]) rfl rfl rfl rfl tsz35 (Ones.int (Ones.int Ones.nil)) rfl rfl HM) ?_
        rintro w9561 HM
        have hS := Mem.suf (M := [box b9526 35 [.int .i64 t9524.fCode, .int .i64 t9524.fValue], own kRef 81 u9520 t9518.fIns, own kOut 84 u9522 t9518.fOuts, own kCoin 86 u9516 t9514, own kStr 9 u9510 t9508.fTexts, own kSign 100 u9512 t9508.fSigns]) HM
        refine ⟨hS, ?_⟩
        refine drw_done (by kernel_rfl) ?_
        replace HM := (HM.front 1 rfl rfl).drop
        replace HM := (HM.front 1 rfl rfl).drop
        replace HM := (HM.front 1 rfl rfl).drop
        replace HM := (HM.front 1 rfl rfl).drop
        replace HM := (HM.front 1 rfl rfl).drop
        replace HM := HM.front 1 rfl rfl
        replace HM := HM.front 2 rfl rfl
        exact at_meet [(1, p1), (3, .int .i64 x3), (4, .pointer (some ⟨b9485, 0, none⟩)), (6, .pointer (some ⟨b9488, 0, none⟩)), (10, .pointer (some ⟨b9526, 0, none⟩))] ⟨_, rfl, HM⟩ (Sub.cons rfl (Sub.cons rfl (Sub.cons rfl (Sub.cons rfl (Sub.cons rfl Sub.nil)))))
      ·skip
       refine br_does (l' := #[true, true, true, false, true, false, true, false, true, false]) rfl (guard_none rfl) rfl rfl (by kernel_rfl) (does_alloc (cs := [.int .i64 0, .int .i64 0]) rfl tz35 rfl HM) ?_
       rintro _ w9562 ⟨b9526, rfl, HM⟩
       have hS := Mem.suf (M := [box b9526 35 [.int .i64 0, .int .i64 0], own kStr 9 u9510 t9508.fTexts, own kSign 100 u9512 t9508.fSigns]) HM
       refine ⟨hS, ?_⟩
       exact drw_sub (K9543 u9510 u9512 b9526 _ HM) (Sub.cons rfl (Sub.cons rfl (Sub.cons rfl (Sub.cons rfl (Sub.cons rfl (Sub.cons rfl (Sub.cons rfl (Sub.cons rfl (Sub.cons rfl Sub.nil)))))))))
     ·skip
      refine br_does (l' := #[true, false, true, false, true, false, true, false, true, false]) rfl (guard_none rfl) rfl rfl (by kernel_rfl) (does_alloc (cs := [.int .i64 0, .int .i64 0]) rfl tz35 rfl HM) ?_
      rintro _ w9563 ⟨b9526, rfl, HM⟩
      have hS := Mem.suf (M := [box b9526 35 [.int .i64 0, .int .i64 0]]) HM
      refine ⟨hS, ?_⟩
      refine drw_any [1] (by kernel_rfl) rfl (.cons ?_ .nil)
      refine br_does (l' := #[true, true, true, false, true, false, true, false, true, false]) rfl (guard_none rfl) rfl rfl (by kernel_rfl) (does_callk rfl callok8 rfl (laws_toLedger.calls (x0 := x0) (HM.rd hp0_0) (HM.rd hp0_1) h9509)) ?_
      rintro _ w9564 ⟨u9510, u9512, rfl, hn⟩
      replace HM : Mem w [] w9564 [own kStr 9 u9510 t9508.fTexts, own kSign 100 u9512 t9508.fSigns, box b9526 35 [.int .i64 0, .int .i64 0], box b9488 30 [.int .i64 x2.fKind, .int .i64 x2.fMember, p2_0, p2_1], box b9485 25 [p0_0, p0_1]] := HM.call hn
      have hS := Mem.suf (M := [own kStr 9 u9510 t9508.fTexts, own kSign 100 u9512 t9508.fSigns, box b9526 35 [.int .i64 0, .int .i64 0]]) HM
      refine ⟨hS, ?_⟩
      replace HM := HM.front 4 rfl rfl
      replace HM := HM.front 4 rfl rfl
      replace HM := HM.front 3 rfl rfl
      replace HM := HM.front 3 rfl rfl
      replace HM := HM.front 4 rfl rfl
      exact drw_sub (K9543 u9510 u9512 b9526 _ HM) (Sub.cons rfl (Sub.cons rfl (Sub.cons rfl (Sub.cons rfl (Sub.cons rfl (Sub.cons rfl (Sub.cons rfl (Sub.cons rfl (Sub.cons rfl Sub.nil)))))))))
    ·rintro _ w9565 ⟨b9526, rfl, HM⟩
     refine at_then ?_
     refine run_seq ?_
     obtain ⟨t9566, h9567, H⟩ := bind_some H
     refine run_region rfl ?_
     refine ox rfl rfl rfl rfl (ex_loadN (cs := [p0_0, p0_1]) rfl rfl Tryz.underlying25 rfl tsz25 rfl ((HM.box_at 0 rfl).sub 0 2 rfl)) ?_
     refine od rfl rfl rfl rfl (does_callk rfl callok8 rfl (laws_toLedger.calls (x0 := x0) (HM.rd hp0_0) (HM.rd hp0_1) h9567)) ?_
     rintro _ w9575 ⟨u9568, u9570, rfl, hn⟩
     replace HM : Mem w [] w9575 [own kStr 9 u9568 t9566.fTexts, own kSign 100 u9570 t9566.fSigns, box b9485 25 [p0_0, p0_1], box b9488 30 [.int .i64 x2.fKind, .int .i64 x2.fMember, p2_0, p2_1], box b9526 35 [.int .i64 t9524.fCode, .int .i64 t9524.fValue]] := HM.call hn
     refine od rfl rfl rfl rfl (does_alloc (cs := [.slice none 0 0, .slice none 0 0]) rfl tz39 rfl HM) ?_
     rintro _ w9576 ⟨b9572, rfl, HM⟩
     refine odS rfl rfl rfl (does_store (vs := [u9568, u9570]) (cs' := [u9568, u9570]) rfl rfl rfl rfl tsz39 (Ones.rd (HM.own_rd 1 rfl) (Ones.rd (HM.own_rd 2 rfl) Ones.nil)) rfl rfl HM) ?_
     rintro w9577 HM
     refine ops_nil (at_then (run_seq ?_))
     obtain ⟨t9578, h9579, H⟩ := bind_some H
     refine run_region rfl ?_
     refine ox rfl rfl rfl rfl (ex_move rfl rfl) ?_
     refine od rfl rfl rfl rfl (does_callk rfl callok9 rfl (laws_toCoinS.calls (x0 := x1) (HM.rd hp1) h9579)) ?_
     rintro u9580 w9582 ⟨_, rfl, hn⟩
     replace HM : Mem w [] w9582 [own kCoin 86 u9580 t9578, box b9572 39 [u9568, u9570], own kStr 9 u9568 t9566.fTexts, own kSign 100 u9570 t9566.fSigns, box b9485 25 [p0_0, p0_1], box b9488 30 [.int .i64 x2.fKind, .int .i64 x2.fMember, p2_0, p2_1], box b9526 35 [.int .i64 t9524.fCode, .int .i64 t9524.fValue]] := HM.call hn
     refine ox rfl rfl rfl rfl (ex_assign rfl rfl) ?_
     refine ops_nil (at_then (run_seq ?_))
     obtain ⟨t9583, h9584, H⟩ := bind_some H
     refine run_region rfl ?_
     refine ox rfl rfl rfl rfl (ex_loadN (cs := [(.int .i64 x2.fKind), (.int .i64 x2.fMember), p2_0, p2_1]) rfl rfl Tryz.underlying30 rfl tsz30 rfl ((HM.box_at 5 rfl).sub 0 4 rfl)) ?_
     refine od rfl rfl rfl rfl (does_callk rfl callok10 rfl (laws_toTx.calls (x0 := x2) (HM.rd hp2_0) (HM.rd hp2_1) h9584)) ?_
     rintro _ w9592 ⟨u9585, u9587, rfl, hn⟩
     replace HM : Mem w [] w9592 [own kRef 81 u9585 t9583.fIns, own kOut 84 u9587 t9583.fOuts, own kCoin 86 u9580 t9578, box b9572 39 [u9568, u9570], own kStr 9 u9568 t9566.fTexts, own kSign 100 u9570 t9566.fSigns, box b9485 25 [p0_0, p0_1], box b9488 30 [.int .i64 x2.fKind, .int .i64 x2.fMember, p2_0, p2_1], box b9526 35 [.int .i64 t9524.fCode, .int .i64 t9524.fValue]] := HM.call hn
     refine od rfl rfl rfl rfl (does_alloc (cs := [.int .i64 0, .int .i64 0, .slice none 0 0, .slice none 0 0]) rfl tz46 rfl HM) ?_
     rintro _ w9593 ⟨b9589, rfl, HM⟩
     refine odS rfl rfl rfl (does_store (vs := [.int .i64 t9583.fKind, .int .i64 t9583.fMember, u9585, u9587]) (cs' := [.int .i64 t9583.fKind, .int .i64 t9583.fMember, u9585, u9587]) rfl rfl rfl rfl tsz46 (Ones.int (Ones.int (Ones.rd (HM.own_rd 1 rfl) (Ones.rd (HM.own_rd 2 rfl) Ones.nil)))) rfl rfl HM) ?_
     rintro w9594 HM
     refine ops_nil (at_then (run_seq ?_))
     obtain ⟨t9595, h9596, H⟩ := bind_some H
     refine run_region rfl ?_
     refine ox rfl rfl rfl rfl (ex_loadN (cs := [u9568, u9570]) rfl rfl Tryz.underlying39 rfl tsz39 rfl ((HM.box_at 4 rfl).sub 0 2 rfl)) ?_
     refine ox rfl rfl rfl rfl (ex_move rfl rfl) ?_
     refine ox rfl rfl rfl rfl (ex_loadN (cs := [(.int .i64 t9583.fKind), (.int .i64 t9583.fMember), u9585, u9587]) rfl rfl Tryz.underlying46 rfl tsz46 rfl ((HM.box_at 0 rfl).sub 0 4 rfl)) ?_
     refine ox rfl rfl rfl rfl (ex_move rfl rfl) ?_
     refine od rfl rfl rfl rfl (does_callk rfl callok11 rfl (impl_CheckTx.calls (x0 := t9566) (x1 := t9578) (x2 := t9583) (x3 := x3) (HM.tab htab) (HM.own_rd 5 rfl) (HM.own_rd 6 rfl) (HM.own_rd 3 rfl) (HM.own_rd 1 rfl) (HM.own_rd 2 rfl) h9596)) ?_
     rintro _ w9600 ⟨rfl, hn⟩
     replace HM : Mem w [] w9600 [box b9589 46 [.int .i64 t9583.fKind, .int .i64 t9583.fMember, u9585, u9587], own kRef 81 u9585 t9583.fIns, own kOut 84 u9587 t9583.fOuts, own kCoin 86 u9580 t9578, box b9572 39 [u9568, u9570], own kStr 9 u9568 t9566.fTexts, own kSign 100 u9570 t9566.fSigns, box b9485 25 [p0_0, p0_1], box b9488 30 [.int .i64 x2.fKind, .int .i64 x2.fMember, p2_0, p2_1], box b9526 35 [.int .i64 t9524.fCode, .int .i64 t9524.fValue]] := HM.call hn
     refine od rfl rfl rfl rfl (does_alloc (cs := [.int .i64 0, .int .i64 0]) rfl tz35 rfl HM) ?_
     rintro _ w9601 ⟨b9597, rfl, HM⟩
     refine odS rfl rfl rfl (does_store (vs := [.int .i64 t9595.fCode, .int .i64 t9595.fValue]) (cs' := [.int .i64 t9595.fCode, .int .i64 t9595.fValue]) rfl rfl rfl rfl tsz35 (Ones.int (Ones.int Ones.nil)) rfl rfl HM) ?_
     rintro w9602 HM
     refine ops_nil (at_then (run_seq ?_))
     refine run_seq ?_
     obtain ⟨t9606, h9607, H⟩ := bind_some H
     refine run_region rfl ?_
     refine ox rfl rfl rfl rfl (ex_loadN (cs := [(.int .i64 t9595.fCode), (.int .i64 t9595.fValue)]) rfl rfl Tryz.underlying35 rfl tsz35 rfl ((HM.box_at 0 rfl).sub 0 2 rfl)) ?_
     refine ox rfl rfl rfl rfl (ex_loadN (cs := [(.int .i64 t9524.fCode), (.int .i64 t9524.fValue)]) rfl rfl Tryz.underlying35 rfl tsz35 rfl ((HM.box_at 10 rfl).sub 0 2 rfl)) ?_
     refine od rfl rfl rfl rfl (does_callk rfl callok12 rfl (laws_eqIntResult.calls (x0 := t9595) (x1 := t9524) h9607)) ?_
     rintro _ w9608 ⟨rfl, hn⟩
     replace HM : Mem w [] w9608 [box b9597 35 [.int .i64 t9595.fCode, .int .i64 t9595.fValue], box b9589 46 [.int .i64 t9583.fKind, .int .i64 t9583.fMember, u9585, u9587], own kRef 81 u9585 t9583.fIns, own kOut 84 u9587 t9583.fOuts, own kCoin 86 u9580 t9578, box b9572 39 [u9568, u9570], own kStr 9 u9568 t9566.fTexts, own kSign 100 u9570 t9566.fSigns, box b9485 25 [p0_0, p0_1], box b9488 30 [.int .i64 x2.fKind, .int .i64 x2.fMember, p2_0, p2_1], box b9526 35 [.int .i64 t9524.fCode, .int .i64 t9524.fValue]] := HM.call hn
     refine ox rfl rfl rfl rfl (ex_not rfl rfl) ?_
     refine ops_nil (at_then ?_)
     refine run_cond (b := !t9606) rfl (fun hb9609 => ?_) (fun hb9609 => ?_)
     ·replace H := cond_t hb9609 H
      refine run_seq ?_
      refine run_region rfl ?_
      refine ox rfl rfl rfl rfl (ex_assign rfl rfl) ?_
      refine ops_nil (at_then ?_)
      refine run_ret ?_
      refine at_then_ret ?_
      replace HM := (HM.front 0 rfl rfl).drop
      replace HM := (HM.front 0 rfl rfl).drop
      replace HM := (HM.front 0 rfl rfl).drop
      replace HM := (HM.front 0 rfl rfl).drop
      replace HM := (HM.front 0 rfl rfl).drop
      replace HM := (HM.front 0 rfl rfl).drop
      replace HM := (HM.front 0 rfl rfl).drop
      replace HM := (HM.front 0 rfl rfl).drop
      replace HM := (HM.front 0 rfl rfl).drop
      replace HM := (HM.front 0 rfl rfl).drop
      replace HM := (HM.front 0 rfl rfl).drop
      have hR := Option.some.inj H
      subst hR
      exact at_ret1 rfl rfl ⟨_, rfl, rfl, HM⟩
     ·replace H := cond_f hb9609 H
      refine run_skip ?_
      refine at_then ?_
      refine run_seq ?_
      refine run_seq ?_
      obtain ⟨t9619, h9620, H⟩ := bind_some H
      obtain ⟨t9625, h9626, H⟩ := bind_some H
      refine run_drawf (fun w_ => Mem w [] w_ [box b9597 35 [.int .i64 t9595.fCode, .int .i64 t9595.fValue], box b9589 46 [.int .i64 t9583.fKind, .int .i64 t9583.fMember, u9585, u9587], own kRef 81 u9585 t9583.fIns, own kOut 84 u9587 t9583.fOuts, own kCoin 86 u9580 t9578, box b9572 39 [u9568, u9570], own kStr 9 u9568 t9566.fTexts, own kSign 100 u9570 t9566.fSigns, box b9485 25 [p0_0, p0_1], box b9488 30 [.int .i64 x2.fKind, .int .i64 x2.fMember, p2_0, p2_1], box b9526 35 [.int .i64 t9524.fCode, .int .i64 t9524.fValue]]) [(0, true), (1, true), (2, false), (3, false), (4, true)] mixed rfl rfl (by kernel_rfl) ?_
      replace HM := HM.grow (fr_drew _)
      have hS := Mem.suf (M := []) HM
      refine drwp_take rfl (guard_none rfl) rfl rfl (fun w_ hS_ => (ex_loadN (cs := [u9568, u9570]) rfl rfl Tryz.underlying39 rfl tsz39 rfl ((hS_.box_at 5 rfl).sub 0 2 rfl))) hS ?_
      refine drwp_take rfl (guard_none rfl) rfl rfl (fun w_ hS_ => (ex_loadN (cs := [p0_0, p0_1]) rfl rfl Tryz.underlying25 rfl tsz25 rfl ((hS_.box_at 8 rfl).sub 0 2 rfl))) hS ?_
      refine drwp_one rfl (guard_none rfl) rfl rfl (does_callk rfl callok8 rfl (laws_toLedger.calls (x0 := x0) (HM.rd hp0_0) (HM.rd hp0_1) h9620)) ?_
      rintro _ w9627 ⟨u9621, u9623, rfl, hn⟩
      replace HM : Mem w [] w9627 [own kStr 9 u9621 t9619.fTexts, own kSign 100 u9623 t9619.fSigns, box b9597 35 [.int .i64 t9595.fCode, .int .i64 t9595.fValue], box b9589 46 [.int .i64 t9583.fKind, .int .i64 t9583.fMember, u9585, u9587], own kRef 81 u9585 t9583.fIns, own kOut 84 u9587 t9583.fOuts, own kCoin 86 u9580 t9578, box b9572 39 [u9568, u9570], own kStr 9 u9568 t9566.fTexts, own kSign 100 u9570 t9566.fSigns, box b9485 25 [p0_0, p0_1], box b9488 30 [.int .i64 x2.fKind, .int .i64 x2.fMember, p2_0, p2_1], box b9526 35 [.int .i64 t9524.fCode, .int .i64 t9524.fValue]] := HM.call hn
      have hS := Mem.suf (M := [own kStr 9 u9621 t9619.fTexts, own kSign 100 u9623 t9619.fSigns]) HM
      refine ⟨hS, ?_⟩
      refine drwp_one rfl (guard_none rfl) rfl rfl (does_callk rfl callok13 rfl (laws_eqLedger.calls (x0 := t9566) (x1 := t9619) (HM.own_rd 8 rfl) (HM.own_rd 9 rfl) (HM.own_rd 0 rfl) (HM.own_rd 1 rfl) h9626)) ?_
      rintro _ w9628 ⟨rfl, hn⟩
      replace HM : Mem w [] w9628 [own kStr 9 u9621 t9619.fTexts, own kSign 100 u9623 t9619.fSigns, box b9597 35 [.int .i64 t9595.fCode, .int .i64 t9595.fValue], box b9589 46 [.int .i64 t9583.fKind, .int .i64 t9583.fMember, u9585, u9587], own kRef 81 u9585 t9583.fIns, own kOut 84 u9587 t9583.fOuts, own kCoin 86 u9580 t9578, box b9572 39 [u9568, u9570], own kStr 9 u9568 t9566.fTexts, own kSign 100 u9570 t9566.fSigns, box b9485 25 [p0_0, p0_1], box b9488 30 [.int .i64 x2.fKind, .int .i64 x2.fMember, p2_0, p2_1], box b9526 35 [.int .i64 t9524.fCode, .int .i64 t9524.fValue]] := HM.call hn
      have hS := Mem.suf (M := [own kStr 9 u9621 t9619.fTexts, own kSign 100 u9623 t9619.fSigns]) HM
      refine ⟨hS, ?_⟩
      refine dp rfl rfl rfl rfl (ex_not rfl rfl) hS ?_
      refine drwp_done ?_
      refine at_then ?_
      refine run_cond (b := !t9625) rfl (fun hb9629 => ?_) (fun hb9629 => ?_)
      ·replace H := cond_t hb9629 H
       refine run_seq ?_
       refine run_region rfl ?_
       refine ox rfl rfl rfl rfl (ex_assign rfl rfl) ?_
       refine ops_nil (at_then ?_)
       refine run_ret ?_
       refine at_then_ret ?_
       replace HM := (HM.front 0 rfl rfl).drop
       replace HM := (HM.front 0 rfl rfl).drop
       replace HM := (HM.front 0 rfl rfl).drop
       replace HM := (HM.front 0 rfl rfl).drop
       replace HM := (HM.front 0 rfl rfl).drop
       replace HM := (HM.front 0 rfl rfl).drop
       replace HM := (HM.front 0 rfl rfl).drop
       replace HM := (HM.front 0 rfl rfl).drop
       replace HM := (HM.front 0 rfl rfl).drop
       replace HM := (HM.front 0 rfl rfl).drop
       replace HM := (HM.front 0 rfl rfl).drop
       replace HM := (HM.front 0 rfl rfl).drop
       replace HM := (HM.front 0 rfl rfl).drop
       have hR := Option.some.inj H
       subst hR
       exact at_ret1 rfl rfl ⟨_, rfl, rfl, HM⟩
      ·replace H := cond_f hb9629 H
       refine run_skip ?_
       refine at_then ?_
       refine run_seq ?_
       refine run_seq ?_
       obtain ⟨t9637, h9638, H⟩ := bind_some H
       obtain ⟨t9641, h9642, H⟩ := bind_some H
       refine run_region rfl ?_
       refine ox rfl rfl rfl rfl (ex_move rfl rfl) ?_
       refine ox rfl rfl rfl rfl (ex_move rfl rfl) ?_
       refine od rfl rfl rfl rfl (does_callk rfl callok9 rfl (laws_toCoinS.calls (x0 := x1) (HM.rd hp1) h9638)) ?_
       rintro u9639 w9643 ⟨_, rfl, hn⟩
       replace HM : Mem w [] w9643 [own kCoin 86 u9639 t9637, own kStr 9 u9621 t9619.fTexts, own kSign 100 u9623 t9619.fSigns, box b9597 35 [.int .i64 t9595.fCode, .int .i64 t9595.fValue], box b9589 46 [.int .i64 t9583.fKind, .int .i64 t9583.fMember, u9585, u9587], own kRef 81 u9585 t9583.fIns, own kOut 84 u9587 t9583.fOuts, own kCoin 86 u9580 t9578, box b9572 39 [u9568, u9570], own kStr 9 u9568 t9566.fTexts, own kSign 100 u9570 t9566.fSigns, box b9485 25 [p0_0, p0_1], box b9488 30 [.int .i64 x2.fKind, .int .i64 x2.fMember, p2_0, p2_1], box b9526 35 [.int .i64 t9524.fCode, .int .i64 t9524.fValue]] := HM.call hn
       refine od rfl rfl rfl rfl (does_callk rfl callok14 rfl (laws_eqCoinS.calls (x0 := t9578) (x1 := t9637) (HM.own_rd 7 rfl) (HM.own_rd 0 rfl) h9642)) ?_
       rintro _ w9644 ⟨rfl, hn⟩
       replace HM : Mem w [] w9644 [own kCoin 86 u9639 t9637, own kStr 9 u9621 t9619.fTexts, own kSign 100 u9623 t9619.fSigns, box b9597 35 [.int .i64 t9595.fCode, .int .i64 t9595.fValue], box b9589 46 [.int .i64 t9583.fKind, .int .i64 t9583.fMember, u9585, u9587], own kRef 81 u9585 t9583.fIns, own kOut 84 u9587 t9583.fOuts, own kCoin 86 u9580 t9578, box b9572 39 [u9568, u9570], own kStr 9 u9568 t9566.fTexts, own kSign 100 u9570 t9566.fSigns, box b9485 25 [p0_0, p0_1], box b9488 30 [.int .i64 x2.fKind, .int .i64 x2.fMember, p2_0, p2_1], box b9526 35 [.int .i64 t9524.fCode, .int .i64 t9524.fValue]] := HM.call hn
       refine ox rfl rfl rfl rfl (ex_not rfl rfl) ?_
       refine ops_nil (at_then ?_)
       refine run_cond (b := !t9641) rfl (fun hb9645 => ?_) (fun hb9645 => ?_)
       ·replace H := cond_t hb9645 H
        refine run_seq ?_
        refine run_region rfl ?_
        refine ox rfl rfl rfl rfl (ex_assign rfl rfl) ?_
        refine ops_nil (at_then ?_)
        refine run_ret ?_
        refine at_then_ret ?_
        replace HM := (HM.front 0 rfl rfl).drop
        replace HM := (HM.front 0 rfl rfl).drop
        replace HM := (HM.front 0 rfl rfl).drop
        replace HM := (HM.front 0 rfl rfl).drop
        replace HM := (HM.front 0 rfl rfl).drop
        replace HM := (HM.front 0 rfl rfl).drop
        replace HM := (HM.front 0 rfl rfl).drop
        replace HM := (HM.front 0 rfl rfl).drop
        replace HM := (HM.front 0 rfl rfl).drop
        replace HM := (HM.front 0 rfl rfl).drop
        replace HM := (HM.front 0 rfl rfl).drop
        replace HM := (HM.front 0 rfl rfl).drop
        replace HM := (HM.front 0 rfl rfl).drop
        replace HM := (HM.front 0 rfl rfl).drop
        have hR := Option.some.inj H
        subst hR
        exact at_ret1 rfl rfl ⟨_, rfl, rfl, HM⟩
       ·replace H := cond_f hb9645 H
        refine run_skip ?_
        refine at_then ?_
        refine run_seq ?_
        refine run_seq ?_
        obtain ⟨t9646, h9647, H⟩ := bind_some H
        obtain ⟨t9652, h9653, H⟩ := bind_some H
        refine run_drawf (fun w_ => Mem w [] w_ [own kCoin 86 u9639 t9637, own kStr 9 u9621 t9619.fTexts, own kSign 100 u9623 t9619.fSigns, box b9597 35 [.int .i64 t9595.fCode, .int .i64 t9595.fValue], box b9589 46 [.int .i64 t9583.fKind, .int .i64 t9583.fMember, u9585, u9587], own kRef 81 u9585 t9583.fIns, own kOut 84 u9587 t9583.fOuts, own kCoin 86 u9580 t9578, box b9572 39 [u9568, u9570], own kStr 9 u9568 t9566.fTexts, own kSign 100 u9570 t9566.fSigns, box b9485 25 [p0_0, p0_1], box b9488 30 [.int .i64 x2.fKind, .int .i64 x2.fMember, p2_0, p2_1], box b9526 35 [.int .i64 t9524.fCode, .int .i64 t9524.fValue]]) [(0, true), (1, true), (2, false), (3, false), (4, true)] mixed rfl rfl (by kernel_rfl) ?_
        replace HM := HM.grow (fr_drew _)
        have hS := Mem.suf (M := []) HM
        refine drwp_take rfl (guard_none rfl) rfl rfl (fun w_ hS_ => (ex_loadN (cs := [(.int .i64 t9583.fKind), (.int .i64 t9583.fMember), u9585, u9587]) rfl rfl Tryz.underlying46 rfl tsz46 rfl ((hS_.box_at 4 rfl).sub 0 4 rfl))) hS ?_
        refine drwp_take rfl (guard_none rfl) rfl rfl (fun w_ hS_ => (ex_loadN (cs := [(.int .i64 x2.fKind), (.int .i64 x2.fMember), p2_0, p2_1]) rfl rfl Tryz.underlying30 rfl tsz30 rfl ((hS_.box_at 12 rfl).sub 0 4 rfl))) hS ?_
        refine drwp_one rfl (guard_none rfl) rfl rfl (does_callk rfl callok10 rfl (laws_toTx.calls (x0 := x2) (HM.rd hp2_0) (HM.rd hp2_1) h9647)) ?_
        rintro _ w9654 ⟨u9648, u9650, rfl, hn⟩
        replace HM : Mem w [] w9654 [own kRef 81 u9648 t9646.fIns, own kOut 84 u9650 t9646.fOuts, own kCoin 86 u9639 t9637, own kStr 9 u9621 t9619.fTexts, own kSign 100 u9623 t9619.fSigns, box b9597 35 [.int .i64 t9595.fCode, .int .i64 t9595.fValue], box b9589 46 [.int .i64 t9583.fKind, .int .i64 t9583.fMember, u9585, u9587], own kRef 81 u9585 t9583.fIns, own kOut 84 u9587 t9583.fOuts, own kCoin 86 u9580 t9578, box b9572 39 [u9568, u9570], own kStr 9 u9568 t9566.fTexts, own kSign 100 u9570 t9566.fSigns, box b9485 25 [p0_0, p0_1], box b9488 30 [.int .i64 x2.fKind, .int .i64 x2.fMember, p2_0, p2_1], box b9526 35 [.int .i64 t9524.fCode, .int .i64 t9524.fValue]] := HM.call hn
        have hS := Mem.suf (M := [own kRef 81 u9648 t9646.fIns, own kOut 84 u9650 t9646.fOuts]) HM
        refine ⟨hS, ?_⟩
        refine drwp_one rfl (guard_none rfl) rfl rfl (does_callk rfl callok15 rfl (laws_eqTx.calls (x0 := t9583) (x1 := t9646) (HM.own_rd 7 rfl) (HM.own_rd 8 rfl) (HM.own_rd 0 rfl) (HM.own_rd 1 rfl) h9653)) ?_
        rintro _ w9655 ⟨rfl, hn⟩
        replace HM : Mem w [] w9655 [own kRef 81 u9648 t9646.fIns, own kOut 84 u9650 t9646.fOuts, own kCoin 86 u9639 t9637, own kStr 9 u9621 t9619.fTexts, own kSign 100 u9623 t9619.fSigns, box b9597 35 [.int .i64 t9595.fCode, .int .i64 t9595.fValue], box b9589 46 [.int .i64 t9583.fKind, .int .i64 t9583.fMember, u9585, u9587], own kRef 81 u9585 t9583.fIns, own kOut 84 u9587 t9583.fOuts, own kCoin 86 u9580 t9578, box b9572 39 [u9568, u9570], own kStr 9 u9568 t9566.fTexts, own kSign 100 u9570 t9566.fSigns, box b9485 25 [p0_0, p0_1], box b9488 30 [.int .i64 x2.fKind, .int .i64 x2.fMember, p2_0, p2_1], box b9526 35 [.int .i64 t9524.fCode, .int .i64 t9524.fValue]] := HM.call hn
        have hS := Mem.suf (M := [own kRef 81 u9648 t9646.fIns, own kOut 84 u9650 t9646.fOuts]) HM
        refine ⟨hS, ?_⟩
        refine dp rfl rfl rfl rfl (ex_not rfl rfl) hS ?_
        refine drwp_done ?_
        refine at_then ?_
        refine run_cond (b := !t9652) rfl (fun hb9656 => ?_) (fun hb9656 => ?_)
        ·replace H := cond_t hb9656 H
         refine run_seq ?_
         refine run_region rfl ?_
         refine ox rfl rfl rfl rfl (ex_assign rfl rfl) ?_
         refine ops_nil (at_then ?_)
         refine run_ret ?_
         refine at_then_ret ?_
         replace HM := (HM.front 0 rfl rfl).drop
         replace HM := (HM.front 0 rfl rfl).drop
         replace HM := (HM.front 0 rfl rfl).drop
         replace HM := (HM.front 0 rfl rfl).drop
         replace HM := (HM.front 0 rfl rfl).drop
         replace HM := (HM.front 0 rfl rfl).drop
         replace HM := (HM.front 0 rfl rfl).drop
         replace HM := (HM.front 0 rfl rfl).drop
         replace HM := (HM.front 0 rfl rfl).drop
         replace HM := (HM.front 0 rfl rfl).drop
         replace HM := (HM.front 0 rfl rfl).drop
         replace HM := (HM.front 0 rfl rfl).drop
         replace HM := (HM.front 0 rfl rfl).drop
         replace HM := (HM.front 0 rfl rfl).drop
         replace HM := (HM.front 0 rfl rfl).drop
         replace HM := (HM.front 0 rfl rfl).drop
         have hR := Option.some.inj H
         subst hR
         exact at_ret1 rfl rfl ⟨_, rfl, rfl, HM⟩
        ·replace H := cond_f hb9656 H
         refine run_skip ?_
         refine at_then ?_
         refine run_seq ?_
         refine run_region rfl ?_
         refine ox rfl rfl rfl rfl (ex_assign rfl rfl) ?_
         refine ops_nil (at_then ?_)
         refine run_ret ?_
         replace HM := (HM.front 0 rfl rfl).drop
         replace HM := (HM.front 0 rfl rfl).drop
         replace HM := (HM.front 0 rfl rfl).drop
         replace HM := (HM.front 0 rfl rfl).drop
         replace HM := (HM.front 0 rfl rfl).drop
         replace HM := (HM.front 0 rfl rfl).drop
         replace HM := (HM.front 0 rfl rfl).drop
         replace HM := (HM.front 0 rfl rfl).drop
         replace HM := (HM.front 0 rfl rfl).drop
         replace HM := (HM.front 0 rfl rfl).drop
         replace HM := (HM.front 0 rfl rfl).drop
         replace HM := (HM.front 0 rfl rfl).drop
         replace HM := (HM.front 0 rfl rfl).drop
         replace HM := (HM.front 0 rfl rfl).drop
         replace HM := (HM.front 0 rfl rfl).drop
         replace HM := (HM.front 0 rfl rfl).drop
         have hR := Option.some.inj H
         subst hR
         exact at_ret1 rfl rfl ⟨_, rfl, rfl, HM⟩
end Go.Proofs.YtpfaihnmonfkhaaGreatDoor.Zk
