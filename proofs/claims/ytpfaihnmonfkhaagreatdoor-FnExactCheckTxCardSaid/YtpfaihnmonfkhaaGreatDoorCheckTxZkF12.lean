/- What functions of the program compute, each as a plain function, and that they do. Conditions: as each theorem states them. -/
import Derived.Test.YtpfaihnmonfkhaaGreatDoorCheckTxZkF11
namespace Go.Proofs.YtpfaihnmonfkhaaGreatDoor.Zk
open Go Go.RowKit Go.IntWalk Go.Proofs
set_option linter.unusedVariables false
set_option linter.unusedSimpArgs false
set_option maxRecDepth 100000
set_option maxHeartbeats 4000000
def laws_eqStringS.l0 (x0 : List ByteArray) (x1 : List ByteArray) : Nat → Int → Option (Bool ⊕ Unit)
 | 0, _ => none
 | k + 1, a8732 => (bif (decide (a8732 < (x0.length : Int))) then (chk (idxOk a8732 x0.length) (chk (idxOk a8732 x1.length) (bif (!sEq (gt x0 a8732) (gt x1 a8732)) then some (.inl false) else laws_eqStringS.l0 x0 x1 k (wrap64 (a8732 + 1))))) else some (.inr ()))
theorem laws_eqStringS.l0_z (x0 : List ByteArray) (x1 : List ByteArray) (a8732 : Int) : laws_eqStringS.l0 x0 x1 0 a8732 = none := rfl
theorem laws_eqStringS.l0_s (x0 : List ByteArray) (x1 : List ByteArray) (k : Nat) (a8732 : Int) : laws_eqStringS.l0 x0 x1 (k + 1) a8732 = (bif (decide (a8732 < (x0.length : Int))) then (chk (idxOk a8732 x0.length) (chk (idxOk a8732 x1.length) (bif (!sEq (gt x0 a8732) (gt x1 a8732)) then some (.inl false) else laws_eqStringS.l0 x0 x1 k (wrap64 (a8732 + 1))))) else some (.inr ())) := rfl
def laws_eqStringS.f (k : Nat) (x0 : List ByteArray) (x1 : List ByteArray) : Option Bool := (bif ((x0.length : Int) != (x1.length : Int)) then some false else ((laws_eqStringS.l0 x0 x1 k 0).bind fun o8724 => thn o8724 (fun r => some r) (fun _ => some true)))
theorem laws_eqStringS.calls {k : Nat} {x0 : List ByteArray} {x1 : List ByteArray} {p0 : Value} {p1 : Value} {w : World} (hp0 : RdS kStr w p0 x0) (hp1 : RdS kStr w p1 x1) {r : Bool} (H : laws_eqStringS.f k x0 x1 = some r) :
  Calls Tryz.prog 38 ([p0, p1] : List Value).toArray w (fun e w_ => ∃ v, e = .returned v ∧ v = (.bool r) ∧ Mem w [] w_ []) := by
 have HM := Mem.start w
 refine calls_run (N := 26) Tryz.func38 rfl rfl rfl rfl ?_
 unfold laws_eqStringS.f at H
 refine run_seq ?_
 refine run_region rfl ?_
 refine ox rfl rfl rfl rfl (ex_assign rfl rfl) ?_
 refine ops_nil (at_then (run_seq ?_))
 refine run_seq ?_
 refine run_region rfl ?_
 refine ox rfl rfl rfl rfl (ex_move rfl rfl) ?_
 refine ox rfl rfl rfl rfl (ex_len (d := kStr) (xs := x0) rfl rfl Tryz.underlying22 hp0) ?_
 refine ox rfl rfl rfl rfl (ex_move rfl rfl) ?_
 refine ox rfl rfl rfl rfl (ex_len (d := kStr) (xs := x1) rfl rfl Tryz.underlying22 hp1) ?_
 refine ox rfl rfl rfl rfl (ex_neq rfl rfl rfl) ?_
 refine ops_nil (at_then ?_)
 refine run_cond (b := ((x0.length : Int) != (x1.length : Int))) rfl (fun hb8704 => ?_) (fun hb8704 => ?_)
 ·replace H := cond_t hb8704 H
  refine run_seq ?_
  refine run_region rfl ?_
  refine ox rfl rfl rfl rfl (ex_assign rfl rfl) ?_
  refine ops_nil (at_then ?_)
  refine run_ret ?_
  refine at_then_ret ?_
  have hR := Option.some.inj H
  subst hR
  exact at_ret1 rfl rfl ⟨_, rfl, rfl, HM⟩
 ·replace H := cond_f hb8704 H
  refine run_skip ?_
  refine at_then ?_
  obtain ⟨o8724, ho8725, H⟩ := bind_some H
  refine run_mid (fun ρ_ w_ => Sum.inr () = o8724 ∧ ρ_ = [] ∧ Mem w [] w_ []) ?_ ?_
  ·skip
   refine run_seq ?_
   refine run_region rfl ?_
   refine ox rfl rfl rfl rfl (ex_assign rfl rfl) ?_
   refine ops_nil (at_then ?_)
   refine run_block ?_
   refine run_loop (fun k_ ρ_ w_ => ∃ a8732 : Int, laws_eqStringS.l0 x0 x1 k_ a8732 = some o8724 ∧ ρ_ = [(0, p0), (1, p1), (5, .int .i64 a8732)] ∧ Mem w [] w_ []) k (ρ1 := [(0, p0), (1, p1), (5, .int .i64 0)]) ⟨_, ho8725, rfl, HM⟩ (Sub.cons rfl (Sub.cons rfl (Sub.cons rfl Sub.nil))) ?_
   clear HM ho8725
   rintro k8739 _ w8740 ⟨a8732, ho8725, rfl, HM⟩
   obtain _ | k8739 := k8739
   ·exact nomatch ((laws_eqStringS.l0_z x0 x1 a8732).symm.trans ho8725)
   replace ho8725 := (laws_eqStringS.l0_s x0 x1 k8739 a8732).symm.trans ho8725
   refine run_seq ?_
   refine run_seq ?_
   refine run_region rfl ?_
   refine ox rfl rfl rfl rfl (ex_move rfl rfl) ?_
   refine ox rfl rfl rfl rfl (ex_move rfl rfl) ?_
   refine ox rfl rfl rfl rfl (ex_len (d := kStr) (xs := x0) rfl rfl Tryz.underlying22 hp0) ?_
   refine ox rfl rfl rfl rfl (ex_lss rfl rfl rfl) ?_
   refine ops_nil (at_then ?_)
   refine run_cond (b := (decide (a8732 < (x0.length : Int)))) rfl (fun hb8741 => ?_) (fun hb8741 => ?_)
   ·replace ho8725 := cond_t hb8741 ho8725
    refine run_skip ?_
    refine at_then ?_
    refine run_seq ?_
    refine run_block ?_
    refine run_seq ?_
    obtain ⟨e8742, ho8725⟩ := chk_some ho8725
    obtain ⟨e8744, ho8725⟩ := chk_some ho8725
    refine run_drawf (fun w_ => Mem w [] w_ []) [(0, true), (1, true), (2, true), (3, true), (4, true), (5, true), (6, true), (7, true), (8, true)] mixed rfl rfl (by kernel_rfl) ?_
    replace HM := HM.grow (fr_drew _)
    have hS := Mem.suf (M := []) HM
    refine dp rfl rfl rfl rfl (ex_move rfl rfl) hS ?_
    refine dp rfl rfl rfl rfl (ex_move rfl rfl) hS ?_
    have hc8743 : CellsAt _ (sb p0) (so p0 + (a8732).toNat * 1) [(.string (gt x0 a8732))] := rd_plain hp0 e8742
    refine dp rfl rfl rfl rfl (ex_indexAddr (d := kStr) rfl rfl rfl Tryz.underlying22 tsz9 hp0 (idx_lo e8742) (idx_hi e8742)) hS ?_
    refine drwp_take rfl (guard_none rfl) rfl rfl (fun w_ hS_ => (ex_load1 rfl rfl Tryz.underlying9 rfl ((hS_.at_ hc8743) 0 _ rfl))) hS ?_
    refine dp rfl rfl rfl rfl (ex_move rfl rfl) hS ?_
    refine dp rfl rfl rfl rfl (ex_move rfl rfl) hS ?_
    have hc8745 : CellsAt _ (sb p1) (so p1 + (a8732).toNat * 1) [(.string (gt x1 a8732))] := rd_plain hp1 e8744
    refine dp rfl rfl rfl rfl (ex_indexAddr (d := kStr) rfl rfl rfl Tryz.underlying22 tsz9 hp1 (idx_lo e8744) (idx_hi e8744)) hS ?_
    refine drwp_take rfl (guard_none rfl) rfl rfl (fun w_ hS_ => (ex_load1 rfl rfl Tryz.underlying9 rfl ((hS_.at_ hc8745) 0 _ rfl))) hS ?_
    refine dp rfl rfl rfl rfl (ex_sneq rfl rfl rfl) hS ?_
    refine drwp_done ?_
    refine at_then ?_
    refine run_cond (b := (!sEq (gt x0 a8732) (gt x1 a8732))) rfl (fun hb8746 => ?_) (fun hb8746 => ?_)
    ·replace ho8725 := cond_t hb8746 ho8725
     refine run_seq ?_
     refine run_region rfl ?_
     refine ox rfl rfl rfl rfl (ex_assign rfl rfl) ?_
     refine ops_nil (at_then ?_)
     refine run_ret ?_
     refine at_block_ret ?_
     refine at_then_ret ?_
     refine at_then_ret ?_
     refine at_block_ret ?_
     refine at_then_ret ?_
     have hR := Option.some.inj ho8725
     subst hR
     have hT := thn_inl H
     have hR := Option.some.inj hT
     subst hR
     exact at_ret1 rfl rfl ⟨_, rfl, rfl, HM⟩
    ·replace ho8725 := cond_f hb8746 ho8725
     refine run_skip ?_
     refine at_block ?_
     refine at_then ?_
     refine run_region rfl ?_
     refine ox rfl rfl rfl rfl (ex_move rfl rfl) ?_
     refine ox rfl rfl rfl rfl (ex_add rfl rfl rfl) ?_
     refine ox rfl rfl rfl rfl (ex_assign rfl rfl) ?_
     refine ops_nil ?_
     exact at_again k8739 (ρ1 := [(0, p0), (1, p1), (5, .int .i64 (wrap64 (a8732 + 1)))]) (Nat.lt_succ_self _) ⟨_, ho8725, rfl, HM⟩ (Sub.cons rfl (Sub.cons rfl (Sub.cons rfl Sub.nil)))
   ·replace ho8725 := cond_f hb8741 ho8725
    refine run_exit ?_
    refine at_then_exit ?_
    refine at_then_exit ?_
    refine at_block_exit ?_
    exact at_mid (ρ' := []) ⟨(Option.some.inj ho8725), rfl, HM⟩ Sub.nil
  ·rintro _ w8747 ⟨rfl, rfl, HM⟩
   replace H := (thn_inr H)
   refine run_seq ?_
   refine run_region rfl ?_
   refine ox rfl rfl rfl rfl (ex_assign rfl rfl) ?_
   refine ops_nil (at_then ?_)
   refine run_ret ?_
   have hR := Option.some.inj H
   subst hR
   exact at_ret1 rfl rfl ⟨_, rfl, rfl, HM⟩

def laws_eqSign.f (k : Nat) (x0 : Sign) (x1 : Sign) : Option Bool := (bif (x0.fKey != x1.fKey) then some false else (bif (x0.fId != x1.fId) then some false else some true))
theorem laws_eqSign.calls {k : Nat} {x0 : Sign} {x1 : Sign}  {w : World}  {r : Bool} (H : laws_eqSign.f k x0 x1 = some r) :
  Calls Tryz.prog 81 ([.agg #[(.int .i64 x0.fKey), (.int .i64 x0.fId)], .agg #[(.int .i64 x1.fKey), (.int .i64 x1.fId)]] : List Value).toArray w (fun e w_ => ∃ v, e = .returned v ∧ v = (.bool r) ∧ Mem w [] w_ []) := by
 have HM := Mem.start w
 refine calls_run (N := 15) Tryz.func81 rfl rfl rfl rfl ?_
 unfold laws_eqSign.f at H
 refine run_seq ?_
 refine run_region rfl ?_
 refine od rfl rfl rfl rfl (does_box (cs := [.int .i64 x0.fKey, .int .i64 x0.fId]) rfl rfl rfl HM) ?_
 rintro _ w8776 ⟨b8770, rfl, HM⟩
 refine od rfl rfl rfl rfl (does_box (cs := [.int .i64 x1.fKey, .int .i64 x1.fId]) rfl rfl rfl HM) ?_
 rintro _ w8777 ⟨b8773, rfl, HM⟩
 refine ox rfl rfl rfl rfl (ex_assign rfl rfl) ?_
 refine ops_nil (at_then (run_seq ?_))
 refine run_seq ?_
 refine run_region rfl ?_
 refine ox rfl rfl rfl rfl (ex_fieldAddr (off' := 0) rfl rfl Tryz.underlying100 rfl tsz2 rfl) ?_
 refine ox rfl rfl rfl rfl (ex_load1 rfl rfl Tryz.underlying2 rfl ((HM.box_at 1 rfl) 0 _ rfl)) ?_
 refine ox rfl rfl rfl rfl (ex_fieldAddr (off' := 0) rfl rfl Tryz.underlying100 rfl tsz2 rfl) ?_
 refine ox rfl rfl rfl rfl (ex_load1 rfl rfl Tryz.underlying2 rfl ((HM.box_at 0 rfl) 0 _ rfl)) ?_
 refine ox rfl rfl rfl rfl (ex_neq rfl rfl rfl) ?_
 refine ops_nil (at_then ?_)
 refine run_cond (b := (x0.fKey != x1.fKey)) rfl (fun hb8779 => ?_) (fun hb8779 => ?_)
 ·replace H := cond_t hb8779 H
  refine run_seq ?_
  refine run_region rfl ?_
  refine ox rfl rfl rfl rfl (ex_assign rfl rfl) ?_
  refine ops_nil (at_then ?_)
  refine run_ret ?_
  refine at_then_ret ?_
  replace HM := (HM.front 0 rfl rfl).drop
  replace HM := (HM.front 0 rfl rfl).drop
  have hR := Option.some.inj H
  subst hR
  exact at_ret1 rfl rfl ⟨_, rfl, rfl, HM⟩
 ·replace H := cond_f hb8779 H
  refine run_skip ?_
  refine at_then ?_
  refine run_seq ?_
  refine run_seq ?_
  refine run_region rfl ?_
  refine ox rfl rfl rfl rfl (ex_fieldAddr (off' := 1) rfl rfl Tryz.underlying100 rfl tsz2 rfl) ?_
  refine ox rfl rfl rfl rfl (ex_load1 rfl rfl Tryz.underlying2 rfl ((HM.box_at 1 rfl) 1 _ rfl)) ?_
  refine ox rfl rfl rfl rfl (ex_fieldAddr (off' := 1) rfl rfl Tryz.underlying100 rfl tsz2 rfl) ?_
  refine ox rfl rfl rfl rfl (ex_load1 rfl rfl Tryz.underlying2 rfl ((HM.box_at 0 rfl) 1 _ rfl)) ?_
  refine ox rfl rfl rfl rfl (ex_neq rfl rfl rfl) ?_
  refine ops_nil (at_then ?_)
  refine run_cond (b := (x0.fId != x1.fId)) rfl (fun hb8780 => ?_) (fun hb8780 => ?_)
  ·replace H := cond_t hb8780 H
   refine run_seq ?_
   refine run_region rfl ?_
   refine ox rfl rfl rfl rfl (ex_assign rfl rfl) ?_
   refine ops_nil (at_then ?_)
   refine run_ret ?_
   refine at_then_ret ?_
   replace HM := (HM.front 0 rfl rfl).drop
   replace HM := (HM.front 0 rfl rfl).drop
   have hR := Option.some.inj H
   subst hR
   exact at_ret1 rfl rfl ⟨_, rfl, rfl, HM⟩
  ·replace H := cond_f hb8780 H
   refine run_skip ?_
   refine at_then ?_
   refine run_seq ?_
   refine run_region rfl ?_
   refine ox rfl rfl rfl rfl (ex_assign rfl rfl) ?_
   refine ops_nil (at_then ?_)
   refine run_ret ?_
   replace HM := (HM.front 0 rfl rfl).drop
   replace HM := (HM.front 0 rfl rfl).drop
   have hR := Option.some.inj H
   subst hR
   exact at_ret1 rfl rfl ⟨_, rfl, rfl, HM⟩

def laws_eqSignS.l0 (x0 : List Sign) (x1 : List Sign) : Nat → Int → Option (Bool ⊕ Unit)
 | 0, _ => none
 | k + 1, a8840 => (bif (decide (a8840 < (x0.length : Int))) then (chk (idxOk a8840 x0.length) (chk (idxOk a8840 x1.length) ((laws_eqSign.f k (gt x0 a8840) (gt x1 a8840)).bind fun t8856 => (bif !t8856 then some (.inl false) else laws_eqSignS.l0 x0 x1 k (wrap64 (a8840 + 1)))))) else some (.inr ()))
theorem laws_eqSignS.l0_z (x0 : List Sign) (x1 : List Sign) (a8840 : Int) : laws_eqSignS.l0 x0 x1 0 a8840 = none := rfl
theorem laws_eqSignS.l0_s (x0 : List Sign) (x1 : List Sign) (k : Nat) (a8840 : Int) : laws_eqSignS.l0 x0 x1 (k + 1) a8840 = (bif (decide (a8840 < (x0.length : Int))) then (chk (idxOk a8840 x0.length) (chk (idxOk a8840 x1.length) ((laws_eqSign.f k (gt x0 a8840) (gt x1 a8840)).bind fun t8856 => (bif !t8856 then some (.inl false) else laws_eqSignS.l0 x0 x1 k (wrap64 (a8840 + 1)))))) else some (.inr ())) := rfl
def laws_eqSignS.f (k : Nat) (x0 : List Sign) (x1 : List Sign) : Option Bool := (bif ((x0.length : Int) != (x1.length : Int)) then some false else ((laws_eqSignS.l0 x0 x1 k 0).bind fun o8830 => thn o8830 (fun r => some r) (fun _ => some true)))
theorem laws_eqSignS.calls {k : Nat} {x0 : List Sign} {x1 : List Sign} {p0 : Value} {p1 : Value} {w : World} (hp0 : RdS kSign w p0 x0) (hp1 : RdS kSign w p1 x1) {r : Bool} (H : laws_eqSignS.f k x0 x1 = some r) :
  Calls Tryz.prog 39 ([p0, p1] : List Value).toArray w (fun e w_ => ∃ v, e = .returned v ∧ v = (.bool r) ∧ Mem w [] w_ []) := by
 have HM := Mem.start w
 refine calls_run (N := 27) Tryz.func39 rfl rfl rfl rfl ?_
 unfold laws_eqSignS.f at H
 refine run_seq ?_
 refine run_region rfl ?_
 refine ox rfl rfl rfl rfl (ex_assign rfl rfl) ?_
 refine ops_nil (at_then (run_seq ?_))
 refine run_seq ?_
 refine run_region rfl ?_
 refine ox rfl rfl rfl rfl (ex_move rfl rfl) ?_
 refine ox rfl rfl rfl rfl (ex_len (d := kSign) (xs := x0) rfl rfl Tryz.underlying37 hp0) ?_
 refine ox rfl rfl rfl rfl (ex_move rfl rfl) ?_
 refine ox rfl rfl rfl rfl (ex_len (d := kSign) (xs := x1) rfl rfl Tryz.underlying37 hp1) ?_
 refine ox rfl rfl rfl rfl (ex_neq rfl rfl rfl) ?_
 refine ops_nil (at_then ?_)
 refine run_cond (b := ((x0.length : Int) != (x1.length : Int))) rfl (fun hb8804 => ?_) (fun hb8804 => ?_)
 ·replace H := cond_t hb8804 H
  refine run_seq ?_
  refine run_region rfl ?_
  refine ox rfl rfl rfl rfl (ex_assign rfl rfl) ?_
  refine ops_nil (at_then ?_)
  refine run_ret ?_
  refine at_then_ret ?_
  have hR := Option.some.inj H
  subst hR
  exact at_ret1 rfl rfl ⟨_, rfl, rfl, HM⟩
 ·replace H := cond_f hb8804 H
  refine run_skip ?_
  refine at_then ?_
  obtain ⟨o8830, ho8831, H⟩ := bind_some H
  refine run_mid (fun ρ_ w_ => Sum.inr () = o8830 ∧ ρ_ = [] ∧ Mem w [] w_ []) ?_ ?_
  ·skip
   refine run_seq ?_
   refine run_region rfl ?_
   refine ox rfl rfl rfl rfl (ex_assign rfl rfl) ?_
   refine ops_nil (at_then ?_)
   refine run_block ?_
   refine run_loop (fun k_ ρ_ w_ => ∃ a8840 : Int, laws_eqSignS.l0 x0 x1 k_ a8840 = some o8830 ∧ ρ_ = [(0, p0), (1, p1), (5, .int .i64 a8840)] ∧ Mem w [] w_ []) k (ρ1 := [(0, p0), (1, p1), (5, .int .i64 0)]) ⟨_, ho8831, rfl, HM⟩ (Sub.cons rfl (Sub.cons rfl (Sub.cons rfl Sub.nil))) ?_
   clear HM ho8831
   rintro k8849 _ w8850 ⟨a8840, ho8831, rfl, HM⟩
   obtain _ | k8849 := k8849
   ·exact nomatch ((laws_eqSignS.l0_z x0 x1 a8840).symm.trans ho8831)
   replace ho8831 := (laws_eqSignS.l0_s x0 x1 k8849 a8840).symm.trans ho8831
   refine run_seq ?_
   refine run_seq ?_
   refine run_region rfl ?_
   refine ox rfl rfl rfl rfl (ex_move rfl rfl) ?_
   refine ox rfl rfl rfl rfl (ex_move rfl rfl) ?_
   refine ox rfl rfl rfl rfl (ex_len (d := kSign) (xs := x0) rfl rfl Tryz.underlying37 hp0) ?_
   refine ox rfl rfl rfl rfl (ex_lss rfl rfl rfl) ?_
   refine ops_nil (at_then ?_)
   refine run_cond (b := (decide (a8840 < (x0.length : Int)))) rfl (fun hb8851 => ?_) (fun hb8851 => ?_)
   ·replace ho8831 := cond_t hb8851 ho8831
    refine run_skip ?_
    refine at_then ?_
    refine run_seq ?_
    refine run_block ?_
    refine run_seq ?_
    obtain ⟨e8852, ho8831⟩ := chk_some ho8831
    obtain ⟨e8854, ho8831⟩ := chk_some ho8831
    obtain ⟨t8856, h8857, ho8831⟩ := bind_some ho8831
    refine run_drawf (fun w_ => Mem w [] w_ []) [(0, true), (1, true), (2, true), (3, true), (4, true), (5, true), (6, true), (7, true), (8, false), (9, true)] mixed rfl rfl (by kernel_rfl) ?_
    replace HM := HM.grow (fr_drew _)
    have hS := Mem.suf (M := []) HM
    refine dp rfl rfl rfl rfl (ex_move rfl rfl) hS ?_
    refine dp rfl rfl rfl rfl (ex_move rfl rfl) hS ?_
    have hc8853 : CellsAt _ (sb p0) (so p0 + (a8840).toNat * 2) [(.int .i64 ((gt x0 a8840).fKey)), (.int .i64 ((gt x0 a8840).fId))] := rd_plain hp0 e8852
    refine dp rfl rfl rfl rfl (ex_indexAddr (d := kSign) rfl rfl rfl Tryz.underlying37 tsz100 hp0 (idx_lo e8852) (idx_hi e8852)) hS ?_
    refine drwp_take rfl (guard_none rfl) rfl rfl (fun w_ hS_ => (ex_loadN (cs := [(.int .i64 ((gt x0 a8840).fKey)), (.int .i64 ((gt x0 a8840).fId))]) rfl rfl Tryz.underlying100 rfl tsz100 rfl ((hS_.at_ hc8853).sub 0 2 rfl))) hS ?_
    refine dp rfl rfl rfl rfl (ex_move rfl rfl) hS ?_
    refine dp rfl rfl rfl rfl (ex_move rfl rfl) hS ?_
    have hc8855 : CellsAt _ (sb p1) (so p1 + (a8840).toNat * 2) [(.int .i64 ((gt x1 a8840).fKey)), (.int .i64 ((gt x1 a8840).fId))] := rd_plain hp1 e8854
    refine dp rfl rfl rfl rfl (ex_indexAddr (d := kSign) rfl rfl rfl Tryz.underlying37 tsz100 hp1 (idx_lo e8854) (idx_hi e8854)) hS ?_
    refine drwp_take rfl (guard_none rfl) rfl rfl (fun w_ hS_ => (ex_loadN (cs := [(.int .i64 ((gt x1 a8840).fKey)), (.int .i64 ((gt x1 a8840).fId))]) rfl rfl Tryz.underlying100 rfl tsz100 rfl ((hS_.at_ hc8855).sub 0 2 rfl))) hS ?_
    refine drwp_one rfl (guard_none rfl) rfl rfl (does_callk rfl callok81 rfl (laws_eqSign.calls (x0 := (gt x0 a8840)) (x1 := (gt x1 a8840)) h8857)) ?_
    rintro _ w8858 ⟨rfl, hn⟩
    replace HM : Mem w [] w8858 [] := HM.call hn
    have hS := Mem.suf (M := []) HM
    refine ⟨hS, ?_⟩
    refine dp rfl rfl rfl rfl (ex_not rfl rfl) hS ?_
    refine drwp_done ?_
    refine at_then ?_
    refine run_cond (b := !t8856) rfl (fun hb8859 => ?_) (fun hb8859 => ?_)
    ·replace ho8831 := cond_t hb8859 ho8831
     refine run_seq ?_
     refine run_region rfl ?_
     refine ox rfl rfl rfl rfl (ex_assign rfl rfl) ?_
     refine ops_nil (at_then ?_)
     refine run_ret ?_
     refine at_block_ret ?_
     refine at_then_ret ?_
     refine at_then_ret ?_
     refine at_block_ret ?_
     refine at_then_ret ?_
     have hR := Option.some.inj ho8831
     subst hR
     have hT := thn_inl H
     have hR := Option.some.inj hT
     subst hR
     exact at_ret1 rfl rfl ⟨_, rfl, rfl, HM⟩
    ·replace ho8831 := cond_f hb8859 ho8831
     refine run_skip ?_
     refine at_block ?_
     refine at_then ?_
     refine run_region rfl ?_
     refine ox rfl rfl rfl rfl (ex_move rfl rfl) ?_
     refine ox rfl rfl rfl rfl (ex_add rfl rfl rfl) ?_
     refine ox rfl rfl rfl rfl (ex_assign rfl rfl) ?_
     refine ops_nil ?_
     exact at_again k8849 (ρ1 := [(0, p0), (1, p1), (5, .int .i64 (wrap64 (a8840 + 1)))]) (Nat.lt_succ_self _) ⟨_, ho8831, rfl, HM⟩ (Sub.cons rfl (Sub.cons rfl (Sub.cons rfl Sub.nil)))
   ·replace ho8831 := cond_f hb8851 ho8831
    refine run_exit ?_
    refine at_then_exit ?_
    refine at_then_exit ?_
    refine at_block_exit ?_
    exact at_mid (ρ' := []) ⟨(Option.some.inj ho8831), rfl, HM⟩ Sub.nil
  ·rintro _ w8860 ⟨rfl, rfl, HM⟩
   replace H := (thn_inr H)
   refine run_seq ?_
   refine run_region rfl ?_
   refine ox rfl rfl rfl rfl (ex_assign rfl rfl) ?_
   refine ops_nil (at_then ?_)
   refine run_ret ?_
   have hR := Option.some.inj H
   subst hR
   exact at_ret1 rfl rfl ⟨_, rfl, rfl, HM⟩

def laws_eqLedger.f (k : Nat) (x0 : Ledger) (x1 : Ledger) : Option Bool := ((laws_eqStringS.f k x0.fTexts x1.fTexts).bind fun t8875 => (bif !t8875 then some false else ((laws_eqSignS.f k x0.fSigns x1.fSigns).bind fun t8879 => (bif !t8879 then some false else some true))))
theorem laws_eqLedger.calls {k : Nat} {x0 : Ledger} {x1 : Ledger} {p0_0 : Value} {p0_1 : Value} {p1_0 : Value} {p1_1 : Value} {w : World} (hp0_0 : RdS kStr w p0_0 x0.fTexts) (hp0_1 : RdS kSign w p0_1 x0.fSigns) (hp1_0 : RdS kStr w p1_0 x1.fTexts) (hp1_1 : RdS kSign w p1_1 x1.fSigns) {r : Bool} (H : laws_eqLedger.f k x0 x1 = some r) :
  Calls Tryz.prog 13 ([.agg #[p0_0, p0_1], .agg #[p1_0, p1_1]] : List Value).toArray w (fun e w_ => ∃ v, e = .returned v ∧ v = (.bool r) ∧ Mem w [] w_ []) := by
 have HM := Mem.start w
 refine calls_run (N := 17) Tryz.func13 rfl rfl rfl rfl ?_
 unfold laws_eqLedger.f at H
 refine run_seq ?_
 refine run_region rfl ?_
 refine od rfl rfl rfl rfl (does_box (cs := [p0_0, p0_1]) rfl rfl rfl HM) ?_
 rintro _ w8870 ⟨b8864, rfl, HM⟩
 refine od rfl rfl rfl rfl (does_box (cs := [p1_0, p1_1]) rfl rfl rfl HM) ?_
 rintro _ w8871 ⟨b8867, rfl, HM⟩
 refine ox rfl rfl rfl rfl (ex_assign rfl rfl) ?_
 refine ops_nil (at_then (run_seq ?_))
 refine run_seq ?_
 obtain ⟨t8875, h8876, H⟩ := bind_some H
 refine run_region rfl ?_
 refine ox rfl rfl rfl rfl (ex_fieldAddr (off' := 0) rfl rfl Tryz.underlying39 rfl tsz22 rfl) ?_
 refine ox rfl rfl rfl rfl (ex_load1 rfl rfl Tryz.underlying22 rfl ((HM.box_at 1 rfl) 0 _ rfl)) ?_
 refine ox rfl rfl rfl rfl (ex_fieldAddr (off' := 0) rfl rfl Tryz.underlying39 rfl tsz22 rfl) ?_
 refine ox rfl rfl rfl rfl (ex_load1 rfl rfl Tryz.underlying22 rfl ((HM.box_at 0 rfl) 0 _ rfl)) ?_
 refine od rfl rfl rfl rfl (does_callk rfl callok38 rfl (laws_eqStringS.calls (x0 := x0.fTexts) (x1 := x1.fTexts) (HM.rd hp0_0) (HM.rd hp1_0) h8876)) ?_
 rintro _ w8877 ⟨rfl, hn⟩
 replace HM : Mem w [] w8877 [box b8867 39 [p1_0, p1_1], box b8864 39 [p0_0, p0_1]] := HM.call hn
 refine ox rfl rfl rfl rfl (ex_not rfl rfl) ?_
 refine ops_nil (at_then ?_)
 refine run_cond (b := !t8875) rfl (fun hb8878 => ?_) (fun hb8878 => ?_)
 ·replace H := cond_t hb8878 H
  refine run_seq ?_
  refine run_region rfl ?_
  refine ox rfl rfl rfl rfl (ex_assign rfl rfl) ?_
  refine ops_nil (at_then ?_)
  refine run_ret ?_
  refine at_then_ret ?_
  replace HM := (HM.front 0 rfl rfl).drop
  replace HM := (HM.front 0 rfl rfl).drop
  have hR := Option.some.inj H
  subst hR
  exact at_ret1 rfl rfl ⟨_, rfl, rfl, HM⟩
 ·replace H := cond_f hb8878 H
  refine run_skip ?_
  refine at_then ?_
  refine run_seq ?_
  refine run_seq ?_
  obtain ⟨t8879, h8880, H⟩ := bind_some H
  refine run_region rfl ?_
  refine ox rfl rfl rfl rfl (ex_fieldAddr (off' := 1) rfl rfl Tryz.underlying39 rfl tsz37 rfl) ?_
  refine ox rfl rfl rfl rfl (ex_load1 rfl rfl Tryz.underlying37 rfl ((HM.box_at 1 rfl) 1 _ rfl)) ?_
  refine ox rfl rfl rfl rfl (ex_fieldAddr (off' := 1) rfl rfl Tryz.underlying39 rfl tsz37 rfl) ?_
  refine ox rfl rfl rfl rfl (ex_load1 rfl rfl Tryz.underlying37 rfl ((HM.box_at 0 rfl) 1 _ rfl)) ?_
  refine od rfl rfl rfl rfl (does_callk rfl callok39 rfl (laws_eqSignS.calls (x0 := x0.fSigns) (x1 := x1.fSigns) (HM.rd hp0_1) (HM.rd hp1_1) h8880)) ?_
  rintro _ w8881 ⟨rfl, hn⟩
  replace HM : Mem w [] w8881 [box b8867 39 [p1_0, p1_1], box b8864 39 [p0_0, p0_1]] := HM.call hn
  refine ox rfl rfl rfl rfl (ex_not rfl rfl) ?_
  refine ops_nil (at_then ?_)
  refine run_cond (b := !t8879) rfl (fun hb8882 => ?_) (fun hb8882 => ?_)
  ·replace H := cond_t hb8882 H
   refine run_seq ?_
   refine run_region rfl ?_
   refine ox rfl rfl rfl rfl (ex_assign rfl rfl) ?_
   refine ops_nil (at_then ?_)
   refine run_ret ?_
   refine at_then_ret ?_
   replace HM := (HM.front 0 rfl rfl).drop
   replace HM := (HM.front 0 rfl rfl).drop
   have hR := Option.some.inj H
   subst hR
   exact at_ret1 rfl rfl ⟨_, rfl, rfl, HM⟩
  ·replace H := cond_f hb8882 H
   refine run_skip ?_
   refine at_then ?_
   refine run_seq ?_
   refine run_region rfl ?_
   refine ox rfl rfl rfl rfl (ex_assign rfl rfl) ?_
   refine ops_nil (at_then ?_)
   refine run_ret ?_
   replace HM := (HM.front 0 rfl rfl).drop
   replace HM := (HM.front 0 rfl rfl).drop
   have hR := Option.some.inj H
   subst hR
   exact at_ret1 rfl rfl ⟨_, rfl, rfl, HM⟩

def laws_eqRef.f (k : Nat) (x0 : Ref) (x1 : Ref) : Option Bool := (bif (x0.fTx != x1.fTx) then some false else (bif (x0.fAt != x1.fAt) then some false else some true))
theorem laws_eqRef.calls {k : Nat} {x0 : Ref} {x1 : Ref}  {w : World}  {r : Bool} (H : laws_eqRef.f k x0 x1 = some r) :
  Calls Tryz.prog 82 ([.agg #[(.int .i64 x0.fTx), (.int .i64 x0.fAt)], .agg #[(.int .i64 x1.fTx), (.int .i64 x1.fAt)]] : List Value).toArray w (fun e w_ => ∃ v, e = .returned v ∧ v = (.bool r) ∧ Mem w [] w_ []) := by
 have HM := Mem.start w
 refine calls_run (N := 15) Tryz.func82 rfl rfl rfl rfl ?_
 unfold laws_eqRef.f at H
 refine run_seq ?_
 refine run_region rfl ?_
 refine od rfl rfl rfl rfl (does_box (cs := [.int .i64 x0.fTx, .int .i64 x0.fAt]) rfl rfl rfl HM) ?_
 rintro _ w8931 ⟨b8925, rfl, HM⟩
 refine od rfl rfl rfl rfl (does_box (cs := [.int .i64 x1.fTx, .int .i64 x1.fAt]) rfl rfl rfl HM) ?_
 rintro _ w8932 ⟨b8928, rfl, HM⟩
 refine ox rfl rfl rfl rfl (ex_assign rfl rfl) ?_
 refine ops_nil (at_then (run_seq ?_))
 refine run_seq ?_
 refine run_region rfl ?_
 refine ox rfl rfl rfl rfl (ex_fieldAddr (off' := 0) rfl rfl Tryz.underlying81 rfl tsz2 rfl) ?_
 refine ox rfl rfl rfl rfl (ex_load1 rfl rfl Tryz.underlying2 rfl ((HM.box_at 1 rfl) 0 _ rfl)) ?_
 refine ox rfl rfl rfl rfl (ex_fieldAddr (off' := 0) rfl rfl Tryz.underlying81 rfl tsz2 rfl) ?_
 refine ox rfl rfl rfl rfl (ex_load1 rfl rfl Tryz.underlying2 rfl ((HM.box_at 0 rfl) 0 _ rfl)) ?_
 refine ox rfl rfl rfl rfl (ex_neq rfl rfl rfl) ?_
 refine ops_nil (at_then ?_)
 refine run_cond (b := (x0.fTx != x1.fTx)) rfl (fun hb8934 => ?_) (fun hb8934 => ?_)
 ·replace H := cond_t hb8934 H
  refine run_seq ?_
  refine run_region rfl ?_
  refine ox rfl rfl rfl rfl (ex_assign rfl rfl) ?_
  refine ops_nil (at_then ?_)
  refine run_ret ?_
  refine at_then_ret ?_
  replace HM := (HM.front 0 rfl rfl).drop
  replace HM := (HM.front 0 rfl rfl).drop
  have hR := Option.some.inj H
  subst hR
  exact at_ret1 rfl rfl ⟨_, rfl, rfl, HM⟩
 ·replace H := cond_f hb8934 H
  refine run_skip ?_
  refine at_then ?_
  refine run_seq ?_
  refine run_seq ?_
  refine run_region rfl ?_
  refine ox rfl rfl rfl rfl (ex_fieldAddr (off' := 1) rfl rfl Tryz.underlying81 rfl tsz2 rfl) ?_
  refine ox rfl rfl rfl rfl (ex_load1 rfl rfl Tryz.underlying2 rfl ((HM.box_at 1 rfl) 1 _ rfl)) ?_
  refine ox rfl rfl rfl rfl (ex_fieldAddr (off' := 1) rfl rfl Tryz.underlying81 rfl tsz2 rfl) ?_
  refine ox rfl rfl rfl rfl (ex_load1 rfl rfl Tryz.underlying2 rfl ((HM.box_at 0 rfl) 1 _ rfl)) ?_
  refine ox rfl rfl rfl rfl (ex_neq rfl rfl rfl) ?_
  refine ops_nil (at_then ?_)
  refine run_cond (b := (x0.fAt != x1.fAt)) rfl (fun hb8935 => ?_) (fun hb8935 => ?_)
  ·replace H := cond_t hb8935 H
   refine run_seq ?_
   refine run_region rfl ?_
   refine ox rfl rfl rfl rfl (ex_assign rfl rfl) ?_
   refine ops_nil (at_then ?_)
   refine run_ret ?_
   refine at_then_ret ?_
   replace HM := (HM.front 0 rfl rfl).drop
   replace HM := (HM.front 0 rfl rfl).drop
   have hR := Option.some.inj H
   subst hR
   exact at_ret1 rfl rfl ⟨_, rfl, rfl, HM⟩
  ·replace H := cond_f hb8935 H
   refine run_skip ?_
   refine at_then ?_
   refine run_seq ?_
   refine run_region rfl ?_
   refine ox rfl rfl rfl rfl (ex_assign rfl rfl) ?_
   refine ops_nil (at_then ?_)
   refine run_ret ?_
   replace HM := (HM.front 0 rfl rfl).drop
   replace HM := (HM.front 0 rfl rfl).drop
   have hR := Option.some.inj H
   subst hR
   exact at_ret1 rfl rfl ⟨_, rfl, rfl, HM⟩

def laws_eqInt64S.l0 (x0 : List Int) (x1 : List Int) : Nat → Int → Option (Bool ⊕ Unit)
 | 0, _ => none
 | k + 1, a9008 => (bif (decide (a9008 < (x0.length : Int))) then (chk (idxOk a9008 x0.length) (chk (idxOk a9008 x1.length) (bif ((gt x0 a9008) != (gt x1 a9008)) then some (.inl false) else laws_eqInt64S.l0 x0 x1 k (wrap64 (a9008 + 1))))) else some (.inr ()))
theorem laws_eqInt64S.l0_z (x0 : List Int) (x1 : List Int) (a9008 : Int) : laws_eqInt64S.l0 x0 x1 0 a9008 = none := rfl
theorem laws_eqInt64S.l0_s (x0 : List Int) (x1 : List Int) (k : Nat) (a9008 : Int) : laws_eqInt64S.l0 x0 x1 (k + 1) a9008 = (bif (decide (a9008 < (x0.length : Int))) then (chk (idxOk a9008 x0.length) (chk (idxOk a9008 x1.length) (bif ((gt x0 a9008) != (gt x1 a9008)) then some (.inl false) else laws_eqInt64S.l0 x0 x1 k (wrap64 (a9008 + 1))))) else some (.inr ())) := rfl
def laws_eqInt64S.f (k : Nat) (x0 : List Int) (x1 : List Int) : Option Bool := (bif ((x0.length : Int) != (x1.length : Int)) then some false else ((laws_eqInt64S.l0 x0 x1 k 0).bind fun o9000 => thn o9000 (fun r => some r) (fun _ => some true)))
theorem laws_eqInt64S.calls {k : Nat} {x0 : List Int} {x1 : List Int} {p0 : Value} {p1 : Value} {w : World} (hp0 : RdS kInt w p0 x0) (hp1 : RdS kInt w p1 x1) {r : Bool} (H : laws_eqInt64S.f k x0 x1 = some r) :
  Calls Tryz.prog 123 ([p0, p1] : List Value).toArray w (fun e w_ => ∃ v, e = .returned v ∧ v = (.bool r) ∧ Mem w [] w_ []) := by
 have HM := Mem.start w
 refine calls_run (N := 26) Tryz.func123 rfl rfl rfl rfl ?_
 unfold laws_eqInt64S.f at H
 refine run_seq ?_
 refine run_region rfl ?_
 refine ox rfl rfl rfl rfl (ex_assign rfl rfl) ?_
 refine ops_nil (at_then (run_seq ?_))
 refine run_seq ?_
 refine run_region rfl ?_
 refine ox rfl rfl rfl rfl (ex_move rfl rfl) ?_
 refine ox rfl rfl rfl rfl (ex_len (d := kInt) (xs := x0) rfl rfl Tryz.underlying58 hp0) ?_
 refine ox rfl rfl rfl rfl (ex_move rfl rfl) ?_
 refine ox rfl rfl rfl rfl (ex_len (d := kInt) (xs := x1) rfl rfl Tryz.underlying58 hp1) ?_
 refine ox rfl rfl rfl rfl (ex_neq rfl rfl rfl) ?_
 refine ops_nil (at_then ?_)
 refine run_cond (b := ((x0.length : Int) != (x1.length : Int))) rfl (fun hb8980 => ?_) (fun hb8980 => ?_)
 ·replace H := cond_t hb8980 H
  refine run_seq ?_
  refine run_region rfl ?_
  refine ox rfl rfl rfl rfl (ex_assign rfl rfl) ?_
  refine ops_nil (at_then ?_)
  refine run_ret ?_
  refine at_then_ret ?_
  have hR := Option.some.inj H
  subst hR
  exact at_ret1 rfl rfl ⟨_, rfl, rfl, HM⟩
 ·replace H := cond_f hb8980 H
  refine run_skip ?_
  refine at_then ?_
  obtain ⟨o9000, ho9001, H⟩ := bind_some H
  refine run_mid (fun ρ_ w_ => Sum.inr () = o9000 ∧ ρ_ = [] ∧ Mem w [] w_ []) ?_ ?_
  ·skip
   refine run_seq ?_
   refine run_region rfl ?_
   refine ox rfl rfl rfl rfl (ex_assign rfl rfl) ?_
   refine ops_nil (at_then ?_)
   refine run_block ?_
   refine run_loop (fun k_ ρ_ w_ => ∃ a9008 : Int, laws_eqInt64S.l0 x0 x1 k_ a9008 = some o9000 ∧ ρ_ = [(0, p0), (1, p1), (5, .int .i64 a9008)] ∧ Mem w [] w_ []) k (ρ1 := [(0, p0), (1, p1), (5, .int .i64 0)]) ⟨_, ho9001, rfl, HM⟩ (Sub.cons rfl (Sub.cons rfl (Sub.cons rfl Sub.nil))) ?_
   clear HM ho9001
   rintro k9015 _ w9016 ⟨a9008, ho9001, rfl, HM⟩
   obtain _ | k9015 := k9015
   ·exact nomatch ((laws_eqInt64S.l0_z x0 x1 a9008).symm.trans ho9001)
   replace ho9001 := (laws_eqInt64S.l0_s x0 x1 k9015 a9008).symm.trans ho9001
   refine run_seq ?_
   refine run_seq ?_
   refine run_region rfl ?_
   refine ox rfl rfl rfl rfl (ex_move rfl rfl) ?_
   refine ox rfl rfl rfl rfl (ex_move rfl rfl) ?_
   refine ox rfl rfl rfl rfl (ex_len (d := kInt) (xs := x0) rfl rfl Tryz.underlying58 hp0) ?_
   refine ox rfl rfl rfl rfl (ex_lss rfl rfl rfl) ?_
   refine ops_nil (at_then ?_)
   refine run_cond (b := (decide (a9008 < (x0.length : Int)))) rfl (fun hb9017 => ?_) (fun hb9017 => ?_)
   ·replace ho9001 := cond_t hb9017 ho9001
    refine run_skip ?_
    refine at_then ?_
    refine run_seq ?_
    refine run_block ?_
    refine run_seq ?_
    obtain ⟨e9018, ho9001⟩ := chk_some ho9001
    obtain ⟨e9020, ho9001⟩ := chk_some ho9001
    refine run_drawf (fun w_ => Mem w [] w_ []) [(0, true), (1, true), (2, true), (3, true), (4, true), (5, true), (6, true), (7, true), (8, true)] mixed rfl rfl (by kernel_rfl) ?_
    replace HM := HM.grow (fr_drew _)
    have hS := Mem.suf (M := []) HM
    refine dp rfl rfl rfl rfl (ex_move rfl rfl) hS ?_
    refine dp rfl rfl rfl rfl (ex_move rfl rfl) hS ?_
    have hc9019 : CellsAt _ (sb p0) (so p0 + (a9008).toNat * 1) [(.int .i64 (gt x0 a9008))] := rd_plain hp0 e9018
    refine dp rfl rfl rfl rfl (ex_indexAddr (d := kInt) rfl rfl rfl Tryz.underlying58 tsz2 hp0 (idx_lo e9018) (idx_hi e9018)) hS ?_
    refine drwp_take rfl (guard_none rfl) rfl rfl (fun w_ hS_ => (ex_load1 rfl rfl Tryz.underlying2 rfl ((hS_.at_ hc9019) 0 _ rfl))) hS ?_
    refine dp rfl rfl rfl rfl (ex_move rfl rfl) hS ?_
    refine dp rfl rfl rfl rfl (ex_move rfl rfl) hS ?_
    have hc9021 : CellsAt _ (sb p1) (so p1 + (a9008).toNat * 1) [(.int .i64 (gt x1 a9008))] := rd_plain hp1 e9020
    refine dp rfl rfl rfl rfl (ex_indexAddr (d := kInt) rfl rfl rfl Tryz.underlying58 tsz2 hp1 (idx_lo e9020) (idx_hi e9020)) hS ?_
    refine drwp_take rfl (guard_none rfl) rfl rfl (fun w_ hS_ => (ex_load1 rfl rfl Tryz.underlying2 rfl ((hS_.at_ hc9021) 0 _ rfl))) hS ?_
    refine dp rfl rfl rfl rfl (ex_neq rfl rfl rfl) hS ?_
    refine drwp_done ?_
    refine at_then ?_
    refine run_cond (b := ((gt x0 a9008) != (gt x1 a9008))) rfl (fun hb9022 => ?_) (fun hb9022 => ?_)
    ·replace ho9001 := cond_t hb9022 ho9001
     refine run_seq ?_
     refine run_region rfl ?_
     refine ox rfl rfl rfl rfl (ex_assign rfl rfl) ?_
     refine ops_nil (at_then ?_)
     refine run_ret ?_
     refine at_block_ret ?_
     refine at_then_ret ?_
     refine at_then_ret ?_
     refine at_block_ret ?_
     refine at_then_ret ?_
     have hR := Option.some.inj ho9001
     subst hR
     have hT := thn_inl H
     have hR := Option.some.inj hT
     subst hR
     exact at_ret1 rfl rfl ⟨_, rfl, rfl, HM⟩
    ·replace ho9001 := cond_f hb9022 ho9001
     refine run_skip ?_
     refine at_block ?_
     refine at_then ?_
     refine run_region rfl ?_
     refine ox rfl rfl rfl rfl (ex_move rfl rfl) ?_
     refine ox rfl rfl rfl rfl (ex_add rfl rfl rfl) ?_
     refine ox rfl rfl rfl rfl (ex_assign rfl rfl) ?_
     refine ops_nil ?_
     exact at_again k9015 (ρ1 := [(0, p0), (1, p1), (5, .int .i64 (wrap64 (a9008 + 1)))]) (Nat.lt_succ_self _) ⟨_, ho9001, rfl, HM⟩ (Sub.cons rfl (Sub.cons rfl (Sub.cons rfl Sub.nil)))
   ·replace ho9001 := cond_f hb9017 ho9001
    refine run_exit ?_
    refine at_then_exit ?_
    refine at_then_exit ?_
    refine at_block_exit ?_
    exact at_mid (ρ' := []) ⟨(Option.some.inj ho9001), rfl, HM⟩ Sub.nil
  ·rintro _ w9023 ⟨rfl, rfl, HM⟩
   replace H := (thn_inr H)
   refine run_seq ?_
   refine run_region rfl ?_
   refine ox rfl rfl rfl rfl (ex_assign rfl rfl) ?_
   refine ops_nil (at_then ?_)
   refine run_ret ?_
   have hR := Option.some.inj H
   subst hR
   exact at_ret1 rfl rfl ⟨_, rfl, rfl, HM⟩

def laws_eqRule.f (k : Nat) (x0 : Rule) (x1 : Rule) : Option Bool := ((laws_eqInt64S.f k x0.fKeys x1.fKeys).bind fun t9044 => (bif !t9044 then some false else (bif (x0.fNeed != x1.fNeed) then some false else (bif (x0.fAfter != x1.fAfter) then some false else some true))))
theorem laws_eqRule.calls {k : Nat} {x0 : Rule} {x1 : Rule} {p0_0 : Value} {p1_0 : Value} {w : World} (hp0_0 : RdS kInt w p0_0 x0.fKeys) (hp1_0 : RdS kInt w p1_0 x1.fKeys) {r : Bool} (H : laws_eqRule.f k x0 x1 = some r) :
  Calls Tryz.prog 106 ([.agg #[p0_0, (.int .i64 x0.fNeed), (.int .i64 x0.fAfter)], .agg #[p1_0, (.int .i64 x1.fNeed), (.int .i64 x1.fAfter)]] : List Value).toArray w (fun e w_ => ∃ v, e = .returned v ∧ v = (.bool r) ∧ Mem w [] w_ []) := by
 have HM := Mem.start w
 refine calls_run (N := 21) Tryz.func106 rfl rfl rfl rfl ?_
 unfold laws_eqRule.f at H
 refine run_seq ?_
 refine run_region rfl ?_
 refine od rfl rfl rfl rfl (does_box (cs := [p0_0, .int .i64 x0.fNeed, .int .i64 x0.fAfter]) rfl rfl rfl HM) ?_
 rintro _ w9039 ⟨b9033, rfl, HM⟩
 refine od rfl rfl rfl rfl (does_box (cs := [p1_0, .int .i64 x1.fNeed, .int .i64 x1.fAfter]) rfl rfl rfl HM) ?_
 rintro _ w9040 ⟨b9036, rfl, HM⟩
 refine ox rfl rfl rfl rfl (ex_assign rfl rfl) ?_
 refine ops_nil (at_then (run_seq ?_))
 refine run_seq ?_
 obtain ⟨t9044, h9045, H⟩ := bind_some H
 refine run_region rfl ?_
 refine ox rfl rfl rfl rfl (ex_fieldAddr (off' := 0) rfl rfl Tryz.underlying82 rfl tsz58 rfl) ?_
 refine ox rfl rfl rfl rfl (ex_load1 rfl rfl Tryz.underlying58 rfl ((HM.box_at 1 rfl) 0 _ rfl)) ?_
 refine ox rfl rfl rfl rfl (ex_fieldAddr (off' := 0) rfl rfl Tryz.underlying82 rfl tsz58 rfl) ?_
 refine ox rfl rfl rfl rfl (ex_load1 rfl rfl Tryz.underlying58 rfl ((HM.box_at 0 rfl) 0 _ rfl)) ?_
 refine od rfl rfl rfl rfl (does_callk rfl callok123 rfl (laws_eqInt64S.calls (x0 := x0.fKeys) (x1 := x1.fKeys) (HM.rd hp0_0) (HM.rd hp1_0) h9045)) ?_
 rintro _ w9046 ⟨rfl, hn⟩
 replace HM : Mem w [] w9046 [box b9036 82 [p1_0, .int .i64 x1.fNeed, .int .i64 x1.fAfter], box b9033 82 [p0_0, .int .i64 x0.fNeed, .int .i64 x0.fAfter]] := HM.call hn
 refine ox rfl rfl rfl rfl (ex_not rfl rfl) ?_
 refine ops_nil (at_then ?_)
 refine run_cond (b := !t9044) rfl (fun hb9047 => ?_) (fun hb9047 => ?_)
 ·replace H := cond_t hb9047 H
  refine run_seq ?_
  refine run_region rfl ?_
  refine ox rfl rfl rfl rfl (ex_assign rfl rfl) ?_
  refine ops_nil (at_then ?_)
  refine run_ret ?_
  refine at_then_ret ?_
  replace HM := (HM.front 0 rfl rfl).drop
  replace HM := (HM.front 0 rfl rfl).drop
  have hR := Option.some.inj H
  subst hR
  exact at_ret1 rfl rfl ⟨_, rfl, rfl, HM⟩
 ·replace H := cond_f hb9047 H
  refine run_skip ?_
  refine at_then ?_
  refine run_seq ?_
  refine run_seq ?_
  refine run_region rfl ?_
  refine ox rfl rfl rfl rfl (ex_fieldAddr (off' := 1) rfl rfl Tryz.underlying82 rfl tsz2 rfl) ?_
  refine ox rfl rfl rfl rfl (ex_load1 rfl rfl Tryz.underlying2 rfl ((HM.box_at 1 rfl) 1 _ rfl)) ?_
  refine ox rfl rfl rfl rfl (ex_fieldAddr (off' := 1) rfl rfl Tryz.underlying82 rfl tsz2 rfl) ?_
  refine ox rfl rfl rfl rfl (ex_load1 rfl rfl Tryz.underlying2 rfl ((HM.box_at 0 rfl) 1 _ rfl)) ?_
  refine ox rfl rfl rfl rfl (ex_neq rfl rfl rfl) ?_
  refine ops_nil (at_then ?_)
  refine run_cond (b := (x0.fNeed != x1.fNeed)) rfl (fun hb9049 => ?_) (fun hb9049 => ?_)
  ·replace H := cond_t hb9049 H
   refine run_seq ?_
   refine run_region rfl ?_
   refine ox rfl rfl rfl rfl (ex_assign rfl rfl) ?_
   refine ops_nil (at_then ?_)
   refine run_ret ?_
   refine at_then_ret ?_
   replace HM := (HM.front 0 rfl rfl).drop
   replace HM := (HM.front 0 rfl rfl).drop
   have hR := Option.some.inj H
   subst hR
   exact at_ret1 rfl rfl ⟨_, rfl, rfl, HM⟩
  ·replace H := cond_f hb9049 H
   refine run_skip ?_
   refine at_then ?_
   refine run_seq ?_
   refine run_seq ?_
   refine run_region rfl ?_
   refine ox rfl rfl rfl rfl (ex_fieldAddr (off' := 2) rfl rfl Tryz.underlying82 rfl tsz2 rfl) ?_
   refine ox rfl rfl rfl rfl (ex_load1 rfl rfl Tryz.underlying2 rfl ((HM.box_at 1 rfl) 2 _ rfl)) ?_
   refine ox rfl rfl rfl rfl (ex_fieldAddr (off' := 2) rfl rfl Tryz.underlying82 rfl tsz2 rfl) ?_
   refine ox rfl rfl rfl rfl (ex_load1 rfl rfl Tryz.underlying2 rfl ((HM.box_at 0 rfl) 2 _ rfl)) ?_
   refine ox rfl rfl rfl rfl (ex_neq rfl rfl rfl) ?_
   refine ops_nil (at_then ?_)
   refine run_cond (b := (x0.fAfter != x1.fAfter)) rfl (fun hb9050 => ?_) (fun hb9050 => ?_)
   ·replace H := cond_t hb9050 H
    refine run_seq ?_
    refine run_region rfl ?_
    refine ox rfl rfl rfl rfl (ex_assign rfl rfl) ?_
    refine ops_nil (at_then ?_)
    refine run_ret ?_
    refine at_then_ret ?_
    replace HM := (HM.front 0 rfl rfl).drop
    replace HM := (HM.front 0 rfl rfl).drop
    have hR := Option.some.inj H
    subst hR
    exact at_ret1 rfl rfl ⟨_, rfl, rfl, HM⟩
   ·replace H := cond_f hb9050 H
    refine run_skip ?_
    refine at_then ?_
    refine run_seq ?_
    refine run_region rfl ?_
    refine ox rfl rfl rfl rfl (ex_assign rfl rfl) ?_
    refine ops_nil (at_then ?_)
    refine run_ret ?_
    replace HM := (HM.front 0 rfl rfl).drop
    replace HM := (HM.front 0 rfl rfl).drop
    have hR := Option.some.inj H
    subst hR
    exact at_ret1 rfl rfl ⟨_, rfl, rfl, HM⟩

def laws_eqOut.f (k : Nat) (x0 : Out) (x1 : Out) : Option Bool := (bif (x0.fValue != x1.fValue) then some false else ((laws_eqRule.f k x0.fRule x1.fRule).bind fun t9064 => (bif !t9064 then some false else some true)))
theorem laws_eqOut.calls {k : Nat} {x0 : Out} {x1 : Out} {p0_0 : Value} {p1_0 : Value} {w : World} (hp0_0 : RdS kInt w p0_0 x0.fRule.fKeys) (hp1_0 : RdS kInt w p1_0 x1.fRule.fKeys) {r : Bool} (H : laws_eqOut.f k x0 x1 = some r) :
  Calls Tryz.prog 83 ([.agg #[(.int .i64 x0.fValue), p0_0, (.int .i64 x0.fRule.fNeed), (.int .i64 x0.fRule.fAfter)], .agg #[(.int .i64 x1.fValue), p1_0, (.int .i64 x1.fRule.fNeed), (.int .i64 x1.fRule.fAfter)]] : List Value).toArray w (fun e w_ => ∃ v, e = .returned v ∧ v = (.bool r) ∧ Mem w [] w_ []) := by
 have HM := Mem.start w
 refine calls_run (N := 16) Tryz.func83 rfl rfl rfl rfl ?_
 unfold laws_eqOut.f at H
 refine run_seq ?_
 refine run_region rfl ?_
 refine od rfl rfl rfl rfl (does_box (cs := [.int .i64 x0.fValue, p0_0, .int .i64 x0.fRule.fNeed, .int .i64 x0.fRule.fAfter]) rfl rfl rfl HM) ?_
 rintro _ w9060 ⟨b9054, rfl, HM⟩
 refine od rfl rfl rfl rfl (does_box (cs := [.int .i64 x1.fValue, p1_0, .int .i64 x1.fRule.fNeed, .int .i64 x1.fRule.fAfter]) rfl rfl rfl HM) ?_
 rintro _ w9061 ⟨b9057, rfl, HM⟩
 refine ox rfl rfl rfl rfl (ex_assign rfl rfl) ?_
 refine ops_nil (at_then (run_seq ?_))
 refine run_seq ?_
 refine run_region rfl ?_
 refine ox rfl rfl rfl rfl (ex_fieldAddr (off' := 0) rfl rfl Tryz.underlying84 rfl tsz2 rfl) ?_
 refine ox rfl rfl rfl rfl (ex_load1 rfl rfl Tryz.underlying2 rfl ((HM.box_at 1 rfl) 0 _ rfl)) ?_
 refine ox rfl rfl rfl rfl (ex_fieldAddr (off' := 0) rfl rfl Tryz.underlying84 rfl tsz2 rfl) ?_
 refine ox rfl rfl rfl rfl (ex_load1 rfl rfl Tryz.underlying2 rfl ((HM.box_at 0 rfl) 0 _ rfl)) ?_
 refine ox rfl rfl rfl rfl (ex_neq rfl rfl rfl) ?_
 refine ops_nil (at_then ?_)
 refine run_cond (b := (x0.fValue != x1.fValue)) rfl (fun hb9063 => ?_) (fun hb9063 => ?_)
 ·replace H := cond_t hb9063 H
  refine run_seq ?_
  refine run_region rfl ?_
  refine ox rfl rfl rfl rfl (ex_assign rfl rfl) ?_
  refine ops_nil (at_then ?_)
  refine run_ret ?_
  refine at_then_ret ?_
  replace HM := (HM.front 0 rfl rfl).drop
  replace HM := (HM.front 0 rfl rfl).drop
  have hR := Option.some.inj H
  subst hR
  exact at_ret1 rfl rfl ⟨_, rfl, rfl, HM⟩
 ·replace H := cond_f hb9063 H
  refine run_skip ?_
  refine at_then ?_
  refine run_seq ?_
  refine run_seq ?_
  obtain ⟨t9064, h9065, H⟩ := bind_some H
  refine run_region rfl ?_
  refine ox rfl rfl rfl rfl (ex_fieldAddr (off' := 1) rfl rfl Tryz.underlying84 rfl tsz82 rfl) ?_
  refine ox rfl rfl rfl rfl (ex_loadN (cs := [p0_0, (.int .i64 x0.fRule.fNeed), (.int .i64 x0.fRule.fAfter)]) rfl rfl Tryz.underlying82 rfl tsz82 rfl ((HM.box_at 1 rfl).sub 1 3 rfl)) ?_
  refine ox rfl rfl rfl rfl (ex_fieldAddr (off' := 1) rfl rfl Tryz.underlying84 rfl tsz82 rfl) ?_
  refine ox rfl rfl rfl rfl (ex_loadN (cs := [p1_0, (.int .i64 x1.fRule.fNeed), (.int .i64 x1.fRule.fAfter)]) rfl rfl Tryz.underlying82 rfl tsz82 rfl ((HM.box_at 0 rfl).sub 1 3 rfl)) ?_
  refine od rfl rfl rfl rfl (does_callk rfl callok106 rfl (laws_eqRule.calls (x0 := x0.fRule) (x1 := x1.fRule) (HM.rd hp0_0) (HM.rd hp1_0) h9065)) ?_
  rintro _ w9066 ⟨rfl, hn⟩
  replace HM : Mem w [] w9066 [box b9057 84 [.int .i64 x1.fValue, p1_0, .int .i64 x1.fRule.fNeed, .int .i64 x1.fRule.fAfter], box b9054 84 [.int .i64 x0.fValue, p0_0, .int .i64 x0.fRule.fNeed, .int .i64 x0.fRule.fAfter]] := HM.call hn
  refine ox rfl rfl rfl rfl (ex_not rfl rfl) ?_
  refine ops_nil (at_then ?_)
  refine run_cond (b := !t9064) rfl (fun hb9067 => ?_) (fun hb9067 => ?_)
  ·replace H := cond_t hb9067 H
   refine run_seq ?_
   refine run_region rfl ?_
   refine ox rfl rfl rfl rfl (ex_assign rfl rfl) ?_
   refine ops_nil (at_then ?_)
   refine run_ret ?_
   refine at_then_ret ?_
   replace HM := (HM.front 0 rfl rfl).drop
   replace HM := (HM.front 0 rfl rfl).drop
   have hR := Option.some.inj H
   subst hR
   exact at_ret1 rfl rfl ⟨_, rfl, rfl, HM⟩
  ·replace H := cond_f hb9067 H
   refine run_skip ?_
   refine at_then ?_
   refine run_seq ?_
   refine run_region rfl ?_
   refine ox rfl rfl rfl rfl (ex_assign rfl rfl) ?_
   refine ops_nil (at_then ?_)
   refine run_ret ?_
   replace HM := (HM.front 0 rfl rfl).drop
   replace HM := (HM.front 0 rfl rfl).drop
   have hR := Option.some.inj H
   subst hR
   exact at_ret1 rfl rfl ⟨_, rfl, rfl, HM⟩

def laws_eqCoin.f (k : Nat) (x0 : Coin) (x1 : Coin) : Option Bool := ((laws_eqRef.f k x0.fRef x1.fRef).bind fun t9088 => (bif !t9088 then some false else ((laws_eqOut.f k x0.fOut x1.fOut).bind fun t9095 => (bif !t9095 then some false else (bif (x0.fHeight != x1.fHeight) then some false else (bif (x0.fMined != x1.fMined) then some false else some true))))))
theorem laws_eqCoin.calls {k : Nat} {x0 : Coin} {x1 : Coin} {p0_0 : Value} {p1_0 : Value} {w : World} (hp0_0 : RdS kInt w p0_0 x0.fOut.fRule.fKeys) (hp1_0 : RdS kInt w p1_0 x1.fOut.fRule.fKeys) {r : Bool} (H : laws_eqCoin.f k x0 x1 = some r) :
  Calls Tryz.prog 40 ([.agg #[(.int .i64 x0.fRef.fTx), (.int .i64 x0.fRef.fAt), (.int .i64 x0.fOut.fValue), p0_0, (.int .i64 x0.fOut.fRule.fNeed), (.int .i64 x0.fOut.fRule.fAfter), (.int .i64 x0.fHeight), (.bool x0.fMined)], .agg #[(.int .i64 x1.fRef.fTx), (.int .i64 x1.fRef.fAt), (.int .i64 x1.fOut.fValue), p1_0, (.int .i64 x1.fOut.fRule.fNeed), (.int .i64 x1.fOut.fRule.fAfter), (.int .i64 x1.fHeight), (.bool x1.fMined)]] : List Value).toArray w (fun e w_ => ∃ v, e = .returned v ∧ v = (.bool r) ∧ Mem w [] w_ []) := by
 have HM := Mem.start w
 refine calls_run (N := 27) Tryz.func40 rfl rfl rfl rfl ?_
 unfold laws_eqCoin.f at H
 refine run_seq ?_
 refine run_region rfl ?_
 refine od rfl rfl rfl rfl (does_box (cs := [.int .i64 x0.fRef.fTx, .int .i64 x0.fRef.fAt, .int .i64 x0.fOut.fValue, p0_0, .int .i64 x0.fOut.fRule.fNeed, .int .i64 x0.fOut.fRule.fAfter, .int .i64 x0.fHeight, .bool x0.fMined]) rfl rfl rfl HM) ?_
 rintro _ w9083 ⟨b9077, rfl, HM⟩
 refine od rfl rfl rfl rfl (does_box (cs := [.int .i64 x1.fRef.fTx, .int .i64 x1.fRef.fAt, .int .i64 x1.fOut.fValue, p1_0, .int .i64 x1.fOut.fRule.fNeed, .int .i64 x1.fOut.fRule.fAfter, .int .i64 x1.fHeight, .bool x1.fMined]) rfl rfl rfl HM) ?_
 rintro _ w9084 ⟨b9080, rfl, HM⟩
 refine ox rfl rfl rfl rfl (ex_assign rfl rfl) ?_
 refine ops_nil (at_then (run_seq ?_))
 refine run_seq ?_
 obtain ⟨t9088, h9089, H⟩ := bind_some H
 refine run_region rfl ?_
 refine ox rfl rfl rfl rfl (ex_fieldAddr (off' := 0) rfl rfl Tryz.underlying86 rfl tsz81 rfl) ?_
 refine ox rfl rfl rfl rfl (ex_loadN (cs := [(.int .i64 x0.fRef.fTx), (.int .i64 x0.fRef.fAt)]) rfl rfl Tryz.underlying81 rfl tsz81 rfl ((HM.box_at 1 rfl).sub 0 2 rfl)) ?_
 refine ox rfl rfl rfl rfl (ex_fieldAddr (off' := 0) rfl rfl Tryz.underlying86 rfl tsz81 rfl) ?_
 refine ox rfl rfl rfl rfl (ex_loadN (cs := [(.int .i64 x1.fRef.fTx), (.int .i64 x1.fRef.fAt)]) rfl rfl Tryz.underlying81 rfl tsz81 rfl ((HM.box_at 0 rfl).sub 0 2 rfl)) ?_
 refine od rfl rfl rfl rfl (does_callk rfl callok82 rfl (laws_eqRef.calls (x0 := x0.fRef) (x1 := x1.fRef) h9089)) ?_
 rintro _ w9090 ⟨rfl, hn⟩
 replace HM : Mem w [] w9090 [box b9080 86 [.int .i64 x1.fRef.fTx, .int .i64 x1.fRef.fAt, .int .i64 x1.fOut.fValue, p1_0, .int .i64 x1.fOut.fRule.fNeed, .int .i64 x1.fOut.fRule.fAfter, .int .i64 x1.fHeight, .bool x1.fMined], box b9077 86 [.int .i64 x0.fRef.fTx, .int .i64 x0.fRef.fAt, .int .i64 x0.fOut.fValue, p0_0, .int .i64 x0.fOut.fRule.fNeed, .int .i64 x0.fOut.fRule.fAfter, .int .i64 x0.fHeight, .bool x0.fMined]] := HM.call hn
 refine ox rfl rfl rfl rfl (ex_not rfl rfl) ?_
 refine ops_nil (at_then ?_)
 refine run_cond (b := !t9088) rfl (fun hb9091 => ?_) (fun hb9091 => ?_)
 ·replace H := cond_t hb9091 H
  refine run_seq ?_
  refine run_region rfl ?_
  refine ox rfl rfl rfl rfl (ex_assign rfl rfl) ?_
  refine ops_nil (at_then ?_)
  refine run_ret ?_
  refine at_then_ret ?_
  replace HM := (HM.front 0 rfl rfl).drop
  replace HM := (HM.front 0 rfl rfl).drop
  have hR := Option.some.inj H
  subst hR
  exact at_ret1 rfl rfl ⟨_, rfl, rfl, HM⟩
 ·replace H := cond_f hb9091 H
  refine run_skip ?_
  refine at_then ?_
  refine run_seq ?_
  refine run_seq ?_
  obtain ⟨t9095, h9096, H⟩ := bind_some H
  refine run_region rfl ?_
  refine ox rfl rfl rfl rfl (ex_fieldAddr (off' := 2) rfl rfl Tryz.underlying86 rfl tsz84 rfl) ?_
  refine ox rfl rfl rfl rfl (ex_loadN (cs := [(.int .i64 x0.fOut.fValue), p0_0, (.int .i64 x0.fOut.fRule.fNeed), (.int .i64 x0.fOut.fRule.fAfter)]) rfl rfl Tryz.underlying84 rfl tsz84 rfl ((HM.box_at 1 rfl).sub 2 4 rfl)) ?_
  refine ox rfl rfl rfl rfl (ex_fieldAddr (off' := 2) rfl rfl Tryz.underlying86 rfl tsz84 rfl) ?_
  refine ox rfl rfl rfl rfl (ex_loadN (cs := [(.int .i64 x1.fOut.fValue), p1_0, (.int .i64 x1.fOut.fRule.fNeed), (.int .i64 x1.fOut.fRule.fAfter)]) rfl rfl Tryz.underlying84 rfl tsz84 rfl ((HM.box_at 0 rfl).sub 2 4 rfl)) ?_
  refine od rfl rfl rfl rfl (does_callk rfl callok83 rfl (laws_eqOut.calls (x0 := x0.fOut) (x1 := x1.fOut) (HM.rd hp0_0) (HM.rd hp1_0) h9096)) ?_
  rintro _ w9097 ⟨rfl, hn⟩
  replace HM : Mem w [] w9097 [box b9080 86 [.int .i64 x1.fRef.fTx, .int .i64 x1.fRef.fAt, .int .i64 x1.fOut.fValue, p1_0, .int .i64 x1.fOut.fRule.fNeed, .int .i64 x1.fOut.fRule.fAfter, .int .i64 x1.fHeight, .bool x1.fMined], box b9077 86 [.int .i64 x0.fRef.fTx, .int .i64 x0.fRef.fAt, .int .i64 x0.fOut.fValue, p0_0, .int .i64 x0.fOut.fRule.fNeed, .int .i64 x0.fOut.fRule.fAfter, .int .i64 x0.fHeight, .bool x0.fMined]] := HM.call hn
  refine ox rfl rfl rfl rfl (ex_not rfl rfl) ?_
  refine ops_nil (at_then ?_)
  refine run_cond (b := !t9095) rfl (fun hb9098 => ?_) (fun hb9098 => ?_)
  ·replace H := cond_t hb9098 H
   refine run_seq ?_
   refine run_region rfl ?_
   refine ox rfl rfl rfl rfl (ex_assign rfl rfl) ?_
   refine ops_nil (at_then ?_)
   refine run_ret ?_
   refine at_then_ret ?_
   replace HM := (HM.front 0 rfl rfl).drop
   replace HM := (HM.front 0 rfl rfl).drop
   have hR := Option.some.inj H
   subst hR
   exact at_ret1 rfl rfl ⟨_, rfl, rfl, HM⟩
  ·replace H := cond_f hb9098 H
   refine run_skip ?_
   refine at_then ?_
   refine run_seq ?_
   refine run_seq ?_
   refine run_region rfl ?_
   refine ox rfl rfl rfl rfl (ex_fieldAddr (off' := 6) rfl rfl Tryz.underlying86 rfl tsz2 rfl) ?_
   refine ox rfl rfl rfl rfl (ex_load1 rfl rfl Tryz.underlying2 rfl ((HM.box_at 1 rfl) 6 _ rfl)) ?_
   refine ox rfl rfl rfl rfl (ex_fieldAddr (off' := 6) rfl rfl Tryz.underlying86 rfl tsz2 rfl) ?_
   refine ox rfl rfl rfl rfl (ex_load1 rfl rfl Tryz.underlying2 rfl ((HM.box_at 0 rfl) 6 _ rfl)) ?_
   refine ox rfl rfl rfl rfl (ex_neq rfl rfl rfl) ?_
   refine ops_nil (at_then ?_)
   refine run_cond (b := (x0.fHeight != x1.fHeight)) rfl (fun hb9100 => ?_) (fun hb9100 => ?_)
   ·replace H := cond_t hb9100 H
    refine run_seq ?_
    refine run_region rfl ?_
    refine ox rfl rfl rfl rfl (ex_assign rfl rfl) ?_
    refine ops_nil (at_then ?_)
    refine run_ret ?_
    refine at_then_ret ?_
    replace HM := (HM.front 0 rfl rfl).drop
    replace HM := (HM.front 0 rfl rfl).drop
    have hR := Option.some.inj H
    subst hR
    exact at_ret1 rfl rfl ⟨_, rfl, rfl, HM⟩
   ·replace H := cond_f hb9100 H
    refine run_skip ?_
    refine at_then ?_
    refine run_seq ?_
    refine run_seq ?_
    refine run_region rfl ?_
    refine ox rfl rfl rfl rfl (ex_fieldAddr (off' := 7) rfl rfl Tryz.underlying86 rfl tsz4 rfl) ?_
    refine ox rfl rfl rfl rfl (ex_load1 rfl rfl Tryz.underlying4 rfl ((HM.box_at 1 rfl) 7 _ rfl)) ?_
    refine ox rfl rfl rfl rfl (ex_fieldAddr (off' := 7) rfl rfl Tryz.underlying86 rfl tsz4 rfl) ?_
    refine ox rfl rfl rfl rfl (ex_load1 rfl rfl Tryz.underlying4 rfl ((HM.box_at 0 rfl) 7 _ rfl)) ?_
    refine ox rfl rfl rfl rfl (ex_bneq rfl rfl rfl Tryz.underlying4) ?_
    refine ops_nil (at_then ?_)
    refine run_cond (b := (x0.fMined != x1.fMined)) rfl (fun hb9101 => ?_) (fun hb9101 => ?_)
    ·replace H := cond_t hb9101 H
     refine run_seq ?_
     refine run_region rfl ?_
     refine ox rfl rfl rfl rfl (ex_assign rfl rfl) ?_
     refine ops_nil (at_then ?_)
     refine run_ret ?_
     refine at_then_ret ?_
     replace HM := (HM.front 0 rfl rfl).drop
     replace HM := (HM.front 0 rfl rfl).drop
     have hR := Option.some.inj H
     subst hR
     exact at_ret1 rfl rfl ⟨_, rfl, rfl, HM⟩
    ·replace H := cond_f hb9101 H
     refine run_skip ?_
     refine at_then ?_
     refine run_seq ?_
     refine run_region rfl ?_
     refine ox rfl rfl rfl rfl (ex_assign rfl rfl) ?_
     refine ops_nil (at_then ?_)
     refine run_ret ?_
     replace HM := (HM.front 0 rfl rfl).drop
     replace HM := (HM.front 0 rfl rfl).drop
     have hR := Option.some.inj H
     subst hR
     exact at_ret1 rfl rfl ⟨_, rfl, rfl, HM⟩

def laws_eqCoinS.l0 (x0 : List Coin) (x1 : List Coin) : Nat → Int → Option (Bool ⊕ Unit)
 | 0, _ => none
 | k + 1, a9185 => (bif (decide (a9185 < (x0.length : Int))) then (chk (idxOk a9185 x0.length) (chk (idxOk a9185 x1.length) ((laws_eqCoin.f k (gt x0 a9185) (gt x1 a9185)).bind fun t9209 => (bif !t9209 then some (.inl false) else laws_eqCoinS.l0 x0 x1 k (wrap64 (a9185 + 1)))))) else some (.inr ()))
theorem laws_eqCoinS.l0_z (x0 : List Coin) (x1 : List Coin) (a9185 : Int) : laws_eqCoinS.l0 x0 x1 0 a9185 = none := rfl
theorem laws_eqCoinS.l0_s (x0 : List Coin) (x1 : List Coin) (k : Nat) (a9185 : Int) : laws_eqCoinS.l0 x0 x1 (k + 1) a9185 = (bif (decide (a9185 < (x0.length : Int))) then (chk (idxOk a9185 x0.length) (chk (idxOk a9185 x1.length) ((laws_eqCoin.f k (gt x0 a9185) (gt x1 a9185)).bind fun t9209 => (bif !t9209 then some (.inl false) else laws_eqCoinS.l0 x0 x1 k (wrap64 (a9185 + 1)))))) else some (.inr ())) := rfl
def laws_eqCoinS.f (k : Nat) (x0 : List Coin) (x1 : List Coin) : Option Bool := (bif ((x0.length : Int) != (x1.length : Int)) then some false else ((laws_eqCoinS.l0 x0 x1 k 0).bind fun o9171 => thn o9171 (fun r => some r) (fun _ => some true)))
theorem laws_eqCoinS.calls {k : Nat} {x0 : List Coin} {x1 : List Coin} {p0 : Value} {p1 : Value} {w : World} (hp0 : RdS kCoin w p0 x0) (hp1 : RdS kCoin w p1 x1) {r : Bool} (H : laws_eqCoinS.f k x0 x1 = some r) :
  Calls Tryz.prog 14 ([p0, p1] : List Value).toArray w (fun e w_ => ∃ v, e = .returned v ∧ v = (.bool r) ∧ Mem w [] w_ []) := by
 have HM := Mem.start w
 refine calls_run (N := 27) Tryz.func14 rfl rfl rfl rfl ?_
 unfold laws_eqCoinS.f at H
 refine run_seq ?_
 refine run_region rfl ?_
 refine ox rfl rfl rfl rfl (ex_assign rfl rfl) ?_
 refine ops_nil (at_then (run_seq ?_))
 refine run_seq ?_
 refine run_region rfl ?_
 refine ox rfl rfl rfl rfl (ex_move rfl rfl) ?_
 refine ox rfl rfl rfl rfl (ex_len (d := kCoin) (xs := x0) rfl rfl Tryz.underlying41 hp0) ?_
 refine ox rfl rfl rfl rfl (ex_move rfl rfl) ?_
 refine ox rfl rfl rfl rfl (ex_len (d := kCoin) (xs := x1) rfl rfl Tryz.underlying41 hp1) ?_
 refine ox rfl rfl rfl rfl (ex_neq rfl rfl rfl) ?_
 refine ops_nil (at_then ?_)
 refine run_cond (b := ((x0.length : Int) != (x1.length : Int))) rfl (fun hb9133 => ?_) (fun hb9133 => ?_)
 ·replace H := cond_t hb9133 H
  refine run_seq ?_
  refine run_region rfl ?_
  refine ox rfl rfl rfl rfl (ex_assign rfl rfl) ?_
  refine ops_nil (at_then ?_)
  refine run_ret ?_
  refine at_then_ret ?_
  have hR := Option.some.inj H
  subst hR
  exact at_ret1 rfl rfl ⟨_, rfl, rfl, HM⟩
 ·replace H := cond_f hb9133 H
  refine run_skip ?_
  refine at_then ?_
  obtain ⟨o9171, ho9172, H⟩ := bind_some H
  refine run_mid (fun ρ_ w_ => Sum.inr () = o9171 ∧ ρ_ = [] ∧ Mem w [] w_ []) ?_ ?_
  ·skip
   refine run_seq ?_
   refine run_region rfl ?_
   refine ox rfl rfl rfl rfl (ex_assign rfl rfl) ?_
   refine ops_nil (at_then ?_)
   refine run_block ?_
   refine run_loop (fun k_ ρ_ w_ => ∃ a9185 : Int, laws_eqCoinS.l0 x0 x1 k_ a9185 = some o9171 ∧ ρ_ = [(0, p0), (1, p1), (5, .int .i64 a9185)] ∧ Mem w [] w_ []) k (ρ1 := [(0, p0), (1, p1), (5, .int .i64 0)]) ⟨_, ho9172, rfl, HM⟩ (Sub.cons rfl (Sub.cons rfl (Sub.cons rfl Sub.nil))) ?_
   clear HM ho9172
   rintro k9198 _ w9199 ⟨a9185, ho9172, rfl, HM⟩
   obtain _ | k9198 := k9198
   ·exact nomatch ((laws_eqCoinS.l0_z x0 x1 a9185).symm.trans ho9172)
   replace ho9172 := (laws_eqCoinS.l0_s x0 x1 k9198 a9185).symm.trans ho9172
   refine run_seq ?_
   refine run_seq ?_
   refine run_region rfl ?_
   refine ox rfl rfl rfl rfl (ex_move rfl rfl) ?_
   refine ox rfl rfl rfl rfl (ex_move rfl rfl) ?_
   refine ox rfl rfl rfl rfl (ex_len (d := kCoin) (xs := x0) rfl rfl Tryz.underlying41 hp0) ?_
   refine ox rfl rfl rfl rfl (ex_lss rfl rfl rfl) ?_
   refine ops_nil (at_then ?_)
   refine run_cond (b := (decide (a9185 < (x0.length : Int)))) rfl (fun hb9200 => ?_) (fun hb9200 => ?_)
   ·replace ho9172 := cond_t hb9200 ho9172
    refine run_skip ?_
    refine at_then ?_
    refine run_seq ?_
    refine run_block ?_
    refine run_seq ?_
    obtain ⟨e9201, ho9172⟩ := chk_some ho9172
    obtain ⟨e9205, ho9172⟩ := chk_some ho9172
    obtain ⟨t9209, h9210, ho9172⟩ := bind_some ho9172
    refine run_drawf (fun w_ => Mem w [] w_ []) [(0, true), (1, true), (2, true), (3, true), (4, true), (5, true), (6, true), (7, true), (8, false), (9, true)] mixed rfl rfl (by kernel_rfl) ?_
    replace HM := HM.grow (fr_drew _)
    have hS := Mem.suf (M := []) HM
    refine dp rfl rfl rfl rfl (ex_move rfl rfl) hS ?_
    refine dp rfl rfl rfl rfl (ex_move rfl rfl) hS ?_
    obtain ⟨kv9203, hc9202, hk9204⟩ : ∃ u, CellsAt _ (sb p0) (so p0 + (a9185).toNat * 8) [(.int .i64 ((gt x0 a9185).fRef.fTx)), (.int .i64 ((gt x0 a9185).fRef.fAt)), (.int .i64 ((gt x0 a9185).fOut.fValue)), u, (.int .i64 ((gt x0 a9185).fOut.fRule.fNeed)), (.int .i64 ((gt x0 a9185).fOut.fRule.fAfter)), (.int .i64 ((gt x0 a9185).fHeight)), (.bool ((gt x0 a9185).fMined))] ∧ RdS kInt _ u ((gt x0 a9185).fOut.fRule.fKeys) := rd_with1 hp0 e9201
    refine dp rfl rfl rfl rfl (ex_indexAddr (d := kCoin) rfl rfl rfl Tryz.underlying41 tsz86 hp0 (idx_lo e9201) (idx_hi e9201)) hS ?_
    refine drwp_take rfl (guard_none rfl) rfl rfl (fun w_ hS_ => (ex_loadN (cs := [(.int .i64 ((gt x0 a9185).fRef.fTx)), (.int .i64 ((gt x0 a9185).fRef.fAt)), (.int .i64 ((gt x0 a9185).fOut.fValue)), kv9203, (.int .i64 ((gt x0 a9185).fOut.fRule.fNeed)), (.int .i64 ((gt x0 a9185).fOut.fRule.fAfter)), (.int .i64 ((gt x0 a9185).fHeight)), (.bool ((gt x0 a9185).fMined))]) rfl rfl Tryz.underlying86 rfl tsz86 rfl ((hS_.at_ hc9202).sub 0 8 rfl))) hS ?_
    refine dp rfl rfl rfl rfl (ex_move rfl rfl) hS ?_
    refine dp rfl rfl rfl rfl (ex_move rfl rfl) hS ?_
    obtain ⟨kv9207, hc9206, hk9208⟩ : ∃ u, CellsAt _ (sb p1) (so p1 + (a9185).toNat * 8) [(.int .i64 ((gt x1 a9185).fRef.fTx)), (.int .i64 ((gt x1 a9185).fRef.fAt)), (.int .i64 ((gt x1 a9185).fOut.fValue)), u, (.int .i64 ((gt x1 a9185).fOut.fRule.fNeed)), (.int .i64 ((gt x1 a9185).fOut.fRule.fAfter)), (.int .i64 ((gt x1 a9185).fHeight)), (.bool ((gt x1 a9185).fMined))] ∧ RdS kInt _ u ((gt x1 a9185).fOut.fRule.fKeys) := rd_with1 hp1 e9205
    refine dp rfl rfl rfl rfl (ex_indexAddr (d := kCoin) rfl rfl rfl Tryz.underlying41 tsz86 hp1 (idx_lo e9205) (idx_hi e9205)) hS ?_
    refine drwp_take rfl (guard_none rfl) rfl rfl (fun w_ hS_ => (ex_loadN (cs := [(.int .i64 ((gt x1 a9185).fRef.fTx)), (.int .i64 ((gt x1 a9185).fRef.fAt)), (.int .i64 ((gt x1 a9185).fOut.fValue)), kv9207, (.int .i64 ((gt x1 a9185).fOut.fRule.fNeed)), (.int .i64 ((gt x1 a9185).fOut.fRule.fAfter)), (.int .i64 ((gt x1 a9185).fHeight)), (.bool ((gt x1 a9185).fMined))]) rfl rfl Tryz.underlying86 rfl tsz86 rfl ((hS_.at_ hc9206).sub 0 8 rfl))) hS ?_
    refine drwp_one rfl (guard_none rfl) rfl rfl (does_callk rfl callok40 rfl (laws_eqCoin.calls (x0 := (gt x0 a9185)) (x1 := (gt x1 a9185)) (HM.rd hk9204) (HM.rd hk9208) h9210)) ?_
    rintro _ w9211 ⟨rfl, hn⟩
    replace HM : Mem w [] w9211 [] := HM.call hn
    have hS := Mem.suf (M := []) HM
    refine ⟨hS, ?_⟩
    refine dp rfl rfl rfl rfl (ex_not rfl rfl) hS ?_
    refine drwp_done ?_
    refine at_then ?_
    refine run_cond (b := !t9209) rfl (fun hb9212 => ?_) (fun hb9212 => ?_)
    ·replace ho9172 := cond_t hb9212 ho9172
     refine run_seq ?_
     refine run_region rfl ?_
     refine ox rfl rfl rfl rfl (ex_assign rfl rfl) ?_
     refine ops_nil (at_then ?_)
     refine run_ret ?_
     refine at_block_ret ?_
     refine at_then_ret ?_
     refine at_then_ret ?_
     refine at_block_ret ?_
     refine at_then_ret ?_
     have hR := Option.some.inj ho9172
     subst hR
     have hT := thn_inl H
     have hR := Option.some.inj hT
     subst hR
     exact at_ret1 rfl rfl ⟨_, rfl, rfl, HM⟩
    ·replace ho9172 := cond_f hb9212 ho9172
     refine run_skip ?_
     refine at_block ?_
     refine at_then ?_
     refine run_region rfl ?_
     refine ox rfl rfl rfl rfl (ex_move rfl rfl) ?_
     refine ox rfl rfl rfl rfl (ex_add rfl rfl rfl) ?_
     refine ox rfl rfl rfl rfl (ex_assign rfl rfl) ?_
     refine ops_nil ?_
     exact at_again k9198 (ρ1 := [(0, p0), (1, p1), (5, .int .i64 (wrap64 (a9185 + 1)))]) (Nat.lt_succ_self _) ⟨_, ho9172, rfl, HM⟩ (Sub.cons rfl (Sub.cons rfl (Sub.cons rfl Sub.nil)))
   ·replace ho9172 := cond_f hb9200 ho9172
    refine run_exit ?_
    refine at_then_exit ?_
    refine at_then_exit ?_
    refine at_block_exit ?_
    exact at_mid (ρ' := []) ⟨(Option.some.inj ho9172), rfl, HM⟩ Sub.nil
  ·rintro _ w9213 ⟨rfl, rfl, HM⟩
   replace H := (thn_inr H)
   refine run_seq ?_
   refine run_region rfl ?_
   refine ox rfl rfl rfl rfl (ex_assign rfl rfl) ?_
   refine ops_nil (at_then ?_)
   refine run_ret ?_
   have hR := Option.some.inj H
   subst hR
   exact at_ret1 rfl rfl ⟨_, rfl, rfl, HM⟩
end Go.Proofs.YtpfaihnmonfkhaaGreatDoor.Zk
