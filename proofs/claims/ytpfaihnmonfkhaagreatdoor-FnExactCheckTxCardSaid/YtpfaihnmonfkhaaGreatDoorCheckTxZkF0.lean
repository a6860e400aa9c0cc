/- What functions of the program compute, each as a plain function, and that they do. Conditions: as each theorem states them. -/
import Derived.Test.YtpfaihnmonfkhaaGreatDoorCheckTxZkTy
namespace Go.Proofs.YtpfaihnmonfkhaaGreatDoor.Zk
open Go Go.RowKit Go.IntWalk Go.Proofs
set_option linter.unusedVariables false
set_option linter.unusedSimpArgs false
set_option maxRecDepth 100000
set_option maxHeartbeats 4000000
def laws_szStringS.l0 (x0 : List ByteArray) : Nat → Int → Int → Option (Int ⊕ Int)
 | 0, _, _ => none
 | k + 1, a52, a53 => (bif (decide (a53 < (x0.length : Int))) then (chk (idxOk a53 x0.length) (bif (decide ((wrap64 (a52 - ((gt x0 a53).size : Int))) < 0)) then some (.inl (-1)) else laws_szStringS.l0 x0 k (wrap64 (a52 - ((gt x0 a53).size : Int))) (wrap64 (a53 + 1)))) else some (.inr a52))
theorem laws_szStringS.l0_z (x0 : List ByteArray) (a52 : Int) (a53 : Int) : laws_szStringS.l0 x0 0 a52 a53 = none := rfl
theorem laws_szStringS.l0_s (x0 : List ByteArray) (k : Nat) (a52 : Int) (a53 : Int) : laws_szStringS.l0 x0 (k + 1) a52 a53 = (bif (decide (a53 < (x0.length : Int))) then (chk (idxOk a53 x0.length) (bif (decide ((wrap64 (a52 - ((gt x0 a53).size : Int))) < 0)) then some (.inl (-1)) else laws_szStringS.l0 x0 k (wrap64 (a52 - ((gt x0 a53).size : Int))) (wrap64 (a53 + 1)))) else some (.inr a52)) := rfl
def laws_szStringS.f (k : Nat) (x0 : List ByteArray) (x1 : Int) : Option Int := (bif (decide ((wrap64 (x1 - (x0.length : Int))) < 0)) then some (-1) else ((laws_szStringS.l0 x0 k (wrap64 (x1 - (x0.length : Int))) 0).bind fun o46 => thn o46 (fun r => some r) (fun a45 => some a45)))
theorem laws_szStringS.calls {k : Nat} {x0 : List ByteArray} {x1 : Int} {p0 : Value} {w : World} (hp0 : RdS kStr w p0 x0) {r : Int} (H : laws_szStringS.f k x0 x1 = some r) :
  Calls Tryz.prog 16 ([p0, .int .i64 x1] : List Value).toArray w (fun e w_ => ∃ v, e = .returned v ∧ v = (.int .i64 r) ∧ Mem w [] w_ []) := by
 have HM := Mem.start w
 refine calls_run (N := 28) Tryz.func16 rfl rfl rfl rfl ?_
 unfold laws_szStringS.f at H
 refine run_seq ?_
 refine run_region rfl ?_
 refine ox rfl rfl rfl rfl (ex_assign rfl rfl) ?_
 refine ops_nil (at_then (run_seq ?_))
 refine run_region rfl ?_
 refine ox rfl rfl rfl rfl (ex_move rfl rfl) ?_
 refine ox rfl rfl rfl rfl (ex_move rfl rfl) ?_
 refine ox rfl rfl rfl rfl (ex_len (d := kStr) (xs := x0) rfl rfl Tryz.underlying22 hp0) ?_
 refine ox rfl rfl rfl rfl (ex_sub rfl rfl rfl) ?_
 refine ox rfl rfl rfl rfl (ex_assign rfl rfl) ?_
 refine ops_nil (at_then (run_seq ?_))
 refine run_seq ?_
 refine run_region rfl ?_
 refine ox rfl rfl rfl rfl (ex_move rfl rfl) ?_
 refine ox rfl rfl rfl rfl (ex_lss rfl rfl rfl) ?_
 refine ops_nil (at_then ?_)
 refine run_cond (b := (decide ((wrap64 (x1 - (x0.length : Int))) < 0))) rfl (fun hb30 => ?_) (fun hb30 => ?_)
 ·replace H := cond_t hb30 H
  refine run_seq ?_
  refine run_region rfl ?_
  refine ox rfl rfl rfl rfl (ex_assign rfl rfl) ?_
  refine ops_nil (at_then ?_)
  refine run_ret ?_
  refine at_then_ret ?_
  have hR := Option.some.inj H
  subst hR
  exact at_ret1 rfl rfl ⟨_, rfl, rfl, HM⟩
 ·replace H := cond_f hb30 H
  refine run_skip ?_
  refine at_then ?_
  obtain ⟨o46, ho47, H⟩ := bind_some H
  refine run_mid (fun ρ_ w_ => ∃ a45 : Int, Sum.inr a45 = o46 ∧ ρ_ = [(1, .int .i64 a45)] ∧ Mem w [] w_ []) ?_ ?_
  ·skip
   refine run_seq ?_
   refine run_region rfl ?_
   refine ox rfl rfl rfl rfl (ex_assign rfl rfl) ?_
   refine ops_nil (at_then ?_)
   refine run_block ?_
   refine run_loop (fun k_ ρ_ w_ => ∃ a52 : Int, ∃ a53 : Int, laws_szStringS.l0 x0 k_ a52 a53 = some o46 ∧ ρ_ = [(0, p0), (1, .int .i64 a52), (5, .int .i64 a53)] ∧ Mem w [] w_ []) k (ρ1 := [(0, p0), (1, .int .i64 (wrap64 (x1 - (x0.length : Int)))), (5, .int .i64 0)]) ⟨_, _, ho47, rfl, HM⟩ (Sub.cons rfl (Sub.cons rfl (Sub.cons rfl Sub.nil))) ?_
   clear HM ho47
   rintro k58 _ w59 ⟨a52, a53, ho47, rfl, HM⟩
   obtain _ | k58 := k58
   ·exact nomatch ((laws_szStringS.l0_z x0 a52 a53).symm.trans ho47)
   replace ho47 := (laws_szStringS.l0_s x0 k58 a52 a53).symm.trans ho47
   refine run_seq ?_
   refine run_seq ?_
   refine run_region rfl ?_
   refine ox rfl rfl rfl rfl (ex_move rfl rfl) ?_
   refine ox rfl rfl rfl rfl (ex_move rfl rfl) ?_
   refine ox rfl rfl rfl rfl (ex_len (d := kStr) (xs := x0) rfl rfl Tryz.underlying22 hp0) ?_
   refine ox rfl rfl rfl rfl (ex_lss rfl rfl rfl) ?_
   refine ops_nil (at_then ?_)
   refine run_cond (b := (decide (a53 < (x0.length : Int)))) rfl (fun hb60 => ?_) (fun hb60 => ?_)
   ·replace ho47 := cond_t hb60 ho47
    refine run_skip ?_
    refine at_then ?_
    refine run_seq ?_
    refine run_block ?_
    refine run_seq ?_
    obtain ⟨e61, ho47⟩ := chk_some ho47
    refine run_region rfl ?_
    refine ox rfl rfl rfl rfl (ex_move rfl rfl) ?_
    refine ox rfl rfl rfl rfl (ex_move rfl rfl) ?_
    refine ox rfl rfl rfl rfl (ex_move rfl rfl) ?_
    have hc62 : CellsAt _ (sb p0) (so p0 + (a53).toNat * 1) [(.string (gt x0 a53))] := rd_plain hp0 e61
    refine ox rfl rfl rfl rfl (ex_indexAddr (d := kStr) rfl rfl rfl Tryz.underlying22 tsz9 hp0 (idx_lo e61) (idx_hi e61)) ?_
    refine ox rfl rfl rfl rfl (ex_load1 rfl rfl Tryz.underlying9 rfl ((HM.at_ hc62) 0 _ rfl)) ?_
    refine ox rfl rfl rfl rfl (ex_strlen rfl rfl Tryz.underlying9) ?_
    refine ox rfl rfl rfl rfl (ex_sub rfl rfl rfl) ?_
    refine ox rfl rfl rfl rfl (ex_assign rfl rfl) ?_
    refine ops_nil (at_then (run_seq ?_))
    refine run_region rfl ?_
    refine ox rfl rfl rfl rfl (ex_move rfl rfl) ?_
    refine ox rfl rfl rfl rfl (ex_lss rfl rfl rfl) ?_
    refine ops_nil (at_then ?_)
    refine run_cond (b := (decide ((wrap64 (a52 - ((gt x0 a53).size : Int))) < 0))) rfl (fun hb63 => ?_) (fun hb63 => ?_)
    ·replace ho47 := cond_t hb63 ho47
     refine run_seq ?_
     refine run_region rfl ?_
     refine ox rfl rfl rfl rfl (ex_assign rfl rfl) ?_
     refine ops_nil (at_then ?_)
     refine run_ret ?_
     refine at_block_ret ?_
     refine at_then_ret ?_
     refine at_then_ret ?_
     refine at_block_ret ?_
     refine at_then_ret ?_
     have hR := Option.some.inj ho47
     subst hR
     have hT := thn_inl H
     have hR := Option.some.inj hT
     subst hR
     exact at_ret1 rfl rfl ⟨_, rfl, rfl, HM⟩
    ·replace ho47 := cond_f hb63 ho47
     refine run_skip ?_
     refine at_block ?_
     refine at_then ?_
     refine run_region rfl ?_
     refine ox rfl rfl rfl rfl (ex_move rfl rfl) ?_
     refine ox rfl rfl rfl rfl (ex_add rfl rfl rfl) ?_
     refine ox rfl rfl rfl rfl (ex_assign rfl rfl) ?_
     refine ops_nil ?_
     exact at_again k58 (ρ1 := [(0, p0), (1, .int .i64 (wrap64 (a52 - ((gt x0 a53).size : Int)))), (5, .int .i64 (wrap64 (a53 + 1)))]) (Nat.lt_succ_self _) ⟨_, _, ho47, rfl, HM⟩ (Sub.cons rfl (Sub.cons rfl (Sub.cons rfl Sub.nil)))
   ·replace ho47 := cond_f hb60 ho47
    refine run_exit ?_
    refine at_then_exit ?_
    refine at_then_exit ?_
    refine at_block_exit ?_
    exact at_mid (ρ' := [(1, .int .i64 a52)]) ⟨_, (Option.some.inj ho47), rfl, HM⟩ (Sub.cons rfl Sub.nil)
  ·rintro _ w64 ⟨a45, rfl, rfl, HM⟩
   replace H := (thn_inr H)
   refine run_seq ?_
   refine run_region rfl ?_
   refine ox rfl rfl rfl rfl (ex_move rfl rfl) ?_
   refine ox rfl rfl rfl rfl (ex_assign rfl rfl) ?_
   refine ops_nil (at_then ?_)
   refine run_ret ?_
   have hR := Option.some.inj H
   subst hR
   exact at_ret1 rfl rfl ⟨_, rfl, rfl, HM⟩

def laws_szSignS.f (k : Nat) (x0 : List Sign) (x1 : Int) : Option Int := (bif (decide ((wrap64 (x1 - (x0.length : Int))) < 0)) then some (-1) else some (wrap64 (x1 - (x0.length : Int))))
theorem laws_szSignS.calls {k : Nat} {x0 : List Sign} {x1 : Int} {p0 : Value} {w : World} (hp0 : RdS kSign w p0 x0) {r : Int} (H : laws_szSignS.f k x0 x1 = some r) :
  Calls Tryz.prog 17 ([p0, .int .i64 x1] : List Value).toArray w (fun e w_ => ∃ v, e = .returned v ∧ v = (.int .i64 r) ∧ Mem w [] w_ []) := by
 have HM := Mem.start w
 refine calls_run (N := 12) Tryz.func17 rfl rfl rfl rfl ?_
 unfold laws_szSignS.f at H
 refine run_seq ?_
 refine run_region rfl ?_
 refine ox rfl rfl rfl rfl (ex_assign rfl rfl) ?_
 refine ops_nil (at_then (run_seq ?_))
 refine run_region rfl ?_
 refine ox rfl rfl rfl rfl (ex_move rfl rfl) ?_
 refine ox rfl rfl rfl rfl (ex_move rfl rfl) ?_
 refine ox rfl rfl rfl rfl (ex_len (d := kSign) (xs := x0) rfl rfl Tryz.underlying23 hp0) ?_
 refine ox rfl rfl rfl rfl (ex_sub rfl rfl rfl) ?_
 refine ox rfl rfl rfl rfl (ex_assign rfl rfl) ?_
 refine ops_nil (at_then (run_seq ?_))
 refine run_seq ?_
 refine run_region rfl ?_
 refine ox rfl rfl rfl rfl (ex_move rfl rfl) ?_
 refine ox rfl rfl rfl rfl (ex_lss rfl rfl rfl) ?_
 refine ops_nil (at_then ?_)
 refine run_cond (b := (decide ((wrap64 (x1 - (x0.length : Int))) < 0))) rfl (fun hb70 => ?_) (fun hb70 => ?_)
 ·replace H := cond_t hb70 H
  refine run_seq ?_
  refine run_region rfl ?_
  refine ox rfl rfl rfl rfl (ex_assign rfl rfl) ?_
  refine ops_nil (at_then ?_)
  refine run_ret ?_
  refine at_then_ret ?_
  have hR := Option.some.inj H
  subst hR
  exact at_ret1 rfl rfl ⟨_, rfl, rfl, HM⟩
 ·replace H := cond_f hb70 H
  refine run_skip ?_
  refine at_then ?_
  refine run_seq ?_
  refine run_region rfl ?_
  refine ox rfl rfl rfl rfl (ex_move rfl rfl) ?_
  refine ox rfl rfl rfl rfl (ex_assign rfl rfl) ?_
  refine ops_nil (at_then ?_)
  refine run_ret ?_
  have hR := Option.some.inj H
  subst hR
  exact at_ret1 rfl rfl ⟨_, rfl, rfl, HM⟩

def laws_szLedger.f (k : Nat) (x0 : Ledger) (x1 : Int) : Option Int := ((laws_szStringS.f k x0.fTexts x1).bind fun t78 => (bif (decide (t78 < 0)) then some (-1) else ((laws_szSignS.f k x0.fSigns t78).bind fun t83 => (bif (decide (t83 < 0)) then some (-1) else some t83))))
theorem laws_szLedger.calls {k : Nat} {x0 : Ledger} {x1 : Int} {p0_0 : Value} {p0_1 : Value} {w : World} (hp0_0 : RdS kStr w p0_0 x0.fTexts) (hp0_1 : RdS kSign w p0_1 x0.fSigns) {r : Int} (H : laws_szLedger.f k x0 x1 = some r) :
  Calls Tryz.prog 4 ([.agg #[p0_0, p0_1], .int .i64 x1] : List Value).toArray w (fun e w_ => ∃ v, e = .returned v ∧ v = (.int .i64 r) ∧ Mem w [] w_ []) := by
 have HM := Mem.start w
 refine calls_run (N := 18) Tryz.func4 rfl rfl rfl rfl ?_
 unfold laws_szLedger.f at H
 refine run_seq ?_
 refine run_region rfl ?_
 refine od rfl rfl rfl rfl (does_box (cs := [p0_0, p0_1]) rfl rfl rfl HM) ?_
 rintro _ w77 ⟨b74, rfl, HM⟩
 refine ox rfl rfl rfl rfl (ex_assign rfl rfl) ?_
 refine ops_nil (at_then (run_seq ?_))
 obtain ⟨t78, h79, H⟩ := bind_some H
 refine run_region rfl ?_
 refine ox rfl rfl rfl rfl (ex_fieldAddr (off' := 0) rfl rfl Tryz.underlying25 rfl tsz22 rfl) ?_
 refine ox rfl rfl rfl rfl (ex_load1 rfl rfl Tryz.underlying22 rfl ((HM.box_at 0 rfl) 0 _ rfl)) ?_
 refine ox rfl rfl rfl rfl (ex_move rfl rfl) ?_
 refine od rfl rfl rfl rfl (does_callk rfl callok16 rfl (laws_szStringS.calls (x0 := x0.fTexts) (x1 := x1) (HM.rd hp0_0) h79)) ?_
 rintro _ w80 ⟨rfl, hn⟩
 replace HM : Mem w [] w80 [box b74 25 [p0_0, p0_1]] := HM.call hn
 refine ox rfl rfl rfl rfl (ex_assign rfl rfl) ?_
 refine ops_nil (at_then (run_seq ?_))
 refine run_seq ?_
 refine run_region rfl ?_
 refine ox rfl rfl rfl rfl (ex_move rfl rfl) ?_
 refine ox rfl rfl rfl rfl (ex_lss rfl rfl rfl) ?_
 refine ops_nil (at_then ?_)
 refine run_cond (b := (decide (t78 < 0))) rfl (fun hb82 => ?_) (fun hb82 => ?_)
 ·replace H := cond_t hb82 H
  refine run_seq ?_
  refine run_region rfl ?_
  refine ox rfl rfl rfl rfl (ex_assign rfl rfl) ?_
  refine ops_nil (at_then ?_)
  refine run_ret ?_
  refine at_then_ret ?_
  replace HM := (HM.front 0 rfl rfl).drop
  have hR := Option.some.inj H
  subst hR
  exact at_ret1 rfl rfl ⟨_, rfl, rfl, HM⟩
 ·replace H := cond_f hb82 H
  refine run_skip ?_
  refine at_then ?_
  refine run_seq ?_
  obtain ⟨t83, h84, H⟩ := bind_some H
  refine run_region rfl ?_
  refine ox rfl rfl rfl rfl (ex_fieldAddr (off' := 1) rfl rfl Tryz.underlying25 rfl tsz23 rfl) ?_
  refine ox rfl rfl rfl rfl (ex_load1 rfl rfl Tryz.underlying23 rfl ((HM.box_at 0 rfl) 1 _ rfl)) ?_
  refine ox rfl rfl rfl rfl (ex_move rfl rfl) ?_
  refine od rfl rfl rfl rfl (does_callk rfl callok17 rfl (laws_szSignS.calls (x0 := x0.fSigns) (x1 := t78) (HM.rd hp0_1) h84)) ?_
  rintro _ w85 ⟨rfl, hn⟩
  replace HM : Mem w [] w85 [box b74 25 [p0_0, p0_1]] := HM.call hn
  refine ox rfl rfl rfl rfl (ex_assign rfl rfl) ?_
  refine ops_nil (at_then (run_seq ?_))
  refine run_seq ?_
  refine run_region rfl ?_
  refine ox rfl rfl rfl rfl (ex_move rfl rfl) ?_
  refine ox rfl rfl rfl rfl (ex_lss rfl rfl rfl) ?_
  refine ops_nil (at_then ?_)
  refine run_cond (b := (decide (t83 < 0))) rfl (fun hb86 => ?_) (fun hb86 => ?_)
  ·replace H := cond_t hb86 H
   refine run_seq ?_
   refine run_region rfl ?_
   refine ox rfl rfl rfl rfl (ex_assign rfl rfl) ?_
   refine ops_nil (at_then ?_)
   refine run_ret ?_
   refine at_then_ret ?_
   replace HM := (HM.front 0 rfl rfl).drop
   have hR := Option.some.inj H
   subst hR
   exact at_ret1 rfl rfl ⟨_, rfl, rfl, HM⟩
  ·replace H := cond_f hb86 H
   refine run_skip ?_
   refine at_then ?_
   refine run_seq ?_
   refine run_region rfl ?_
   refine ox rfl rfl rfl rfl (ex_move rfl rfl) ?_
   refine ox rfl rfl rfl rfl (ex_assign rfl rfl) ?_
   refine ops_nil (at_then ?_)
   refine run_ret ?_
   replace HM := (HM.front 0 rfl rfl).drop
   have hR := Option.some.inj H
   subst hR
   exact at_ret1 rfl rfl ⟨_, rfl, rfl, HM⟩

def laws_szInt64S.f (k : Nat) (x0 : List Int) (x1 : Int) : Option Int := (bif (decide ((wrap64 (x1 - (x0.length : Int))) < 0)) then some (-1) else some (wrap64 (x1 - (x0.length : Int))))
theorem laws_szInt64S.calls {k : Nat} {x0 : List Int} {x1 : Int} {p0 : Value} {w : World} (hp0 : RdS kInt w p0 x0) {r : Int} (H : laws_szInt64S.f k x0 x1 = some r) :
  Calls Tryz.prog 107 ([p0, .int .i64 x1] : List Value).toArray w (fun e w_ => ∃ v, e = .returned v ∧ v = (.int .i64 r) ∧ Mem w [] w_ []) := by
 have HM := Mem.start w
 refine calls_run (N := 12) Tryz.func107 rfl rfl rfl rfl ?_
 unfold laws_szInt64S.f at H
 refine run_seq ?_
 refine run_region rfl ?_
 refine ox rfl rfl rfl rfl (ex_assign rfl rfl) ?_
 refine ops_nil (at_then (run_seq ?_))
 refine run_region rfl ?_
 refine ox rfl rfl rfl rfl (ex_move rfl rfl) ?_
 refine ox rfl rfl rfl rfl (ex_move rfl rfl) ?_
 refine ox rfl rfl rfl rfl (ex_len (d := kInt) (xs := x0) rfl rfl Tryz.underlying58 hp0) ?_
 refine ox rfl rfl rfl rfl (ex_sub rfl rfl rfl) ?_
 refine ox rfl rfl rfl rfl (ex_assign rfl rfl) ?_
 refine ops_nil (at_then (run_seq ?_))
 refine run_seq ?_
 refine run_region rfl ?_
 refine ox rfl rfl rfl rfl (ex_move rfl rfl) ?_
 refine ox rfl rfl rfl rfl (ex_lss rfl rfl rfl) ?_
 refine ops_nil (at_then ?_)
 refine run_cond (b := (decide ((wrap64 (x1 - (x0.length : Int))) < 0))) rfl (fun hb108 => ?_) (fun hb108 => ?_)
 ·replace H := cond_t hb108 H
  refine run_seq ?_
  refine run_region rfl ?_
  refine ox rfl rfl rfl rfl (ex_assign rfl rfl) ?_
  refine ops_nil (at_then ?_)
  refine run_ret ?_
  refine at_then_ret ?_
  have hR := Option.some.inj H
  subst hR
  exact at_ret1 rfl rfl ⟨_, rfl, rfl, HM⟩
 ·replace H := cond_f hb108 H
  refine run_skip ?_
  refine at_then ?_
  refine run_seq ?_
  refine run_region rfl ?_
  refine ox rfl rfl rfl rfl (ex_move rfl rfl) ?_
  refine ox rfl rfl rfl rfl (ex_assign rfl rfl) ?_
  refine ops_nil (at_then ?_)
  refine run_ret ?_
  have hR := Option.some.inj H
  subst hR
  exact at_ret1 rfl rfl ⟨_, rfl, rfl, HM⟩

def laws_szRule.f (k : Nat) (x0 : Rule) (x1 : Int) : Option Int := ((laws_szInt64S.f k x0.fKeys x1).bind fun t116 => (bif (decide (t116 < 0)) then some (-1) else some t116))
theorem laws_szRule.calls {k : Nat} {x0 : Rule} {x1 : Int} {p0_0 : Value} {w : World} (hp0_0 : RdS kInt w p0_0 x0.fKeys) {r : Int} (H : laws_szRule.f k x0 x1 = some r) :
  Calls Tryz.prog 84 ([.agg #[p0_0, (.int .i64 x0.fNeed), (.int .i64 x0.fAfter)], .int .i64 x1] : List Value).toArray w (fun e w_ => ∃ v, e = .returned v ∧ v = (.int .i64 r) ∧ Mem w [] w_ []) := by
 have HM := Mem.start w
 refine calls_run (N := 12) Tryz.func84 rfl rfl rfl rfl ?_
 unfold laws_szRule.f at H
 refine run_seq ?_
 refine run_region rfl ?_
 refine od rfl rfl rfl rfl (does_box (cs := [p0_0, .int .i64 x0.fNeed, .int .i64 x0.fAfter]) rfl rfl rfl HM) ?_
 rintro _ w115 ⟨b112, rfl, HM⟩
 refine ox rfl rfl rfl rfl (ex_assign rfl rfl) ?_
 refine ops_nil (at_then (run_seq ?_))
 obtain ⟨t116, h117, H⟩ := bind_some H
 refine run_region rfl ?_
 refine ox rfl rfl rfl rfl (ex_fieldAddr (off' := 0) rfl rfl Tryz.underlying60 rfl tsz58 rfl) ?_
 refine ox rfl rfl rfl rfl (ex_load1 rfl rfl Tryz.underlying58 rfl ((HM.box_at 0 rfl) 0 _ rfl)) ?_
 refine ox rfl rfl rfl rfl (ex_move rfl rfl) ?_
 refine od rfl rfl rfl rfl (does_callk rfl callok107 rfl (laws_szInt64S.calls (x0 := x0.fKeys) (x1 := x1) (HM.rd hp0_0) h117)) ?_
 rintro _ w118 ⟨rfl, hn⟩
 replace HM : Mem w [] w118 [box b112 60 [p0_0, .int .i64 x0.fNeed, .int .i64 x0.fAfter]] := HM.call hn
 refine ox rfl rfl rfl rfl (ex_assign rfl rfl) ?_
 refine ops_nil (at_then (run_seq ?_))
 refine run_seq ?_
 refine run_region rfl ?_
 refine ox rfl rfl rfl rfl (ex_move rfl rfl) ?_
 refine ox rfl rfl rfl rfl (ex_lss rfl rfl rfl) ?_
 refine ops_nil (at_then ?_)
 refine run_cond (b := (decide (t116 < 0))) rfl (fun hb119 => ?_) (fun hb119 => ?_)
 ·replace H := cond_t hb119 H
  refine run_seq ?_
  refine run_region rfl ?_
  refine ox rfl rfl rfl rfl (ex_assign rfl rfl) ?_
  refine ops_nil (at_then ?_)
  refine run_ret ?_
  refine at_then_ret ?_
  replace HM := (HM.front 0 rfl rfl).drop
  have hR := Option.some.inj H
  subst hR
  exact at_ret1 rfl rfl ⟨_, rfl, rfl, HM⟩
 ·replace H := cond_f hb119 H
  refine run_skip ?_
  refine at_then ?_
  refine run_seq ?_
  refine run_region rfl ?_
  refine ox rfl rfl rfl rfl (ex_move rfl rfl) ?_
  refine ox rfl rfl rfl rfl (ex_assign rfl rfl) ?_
  refine ops_nil (at_then ?_)
  refine run_ret ?_
  replace HM := (HM.front 0 rfl rfl).drop
  have hR := Option.some.inj H
  subst hR
  exact at_ret1 rfl rfl ⟨_, rfl, rfl, HM⟩

def laws_szOut.f (k : Nat) (x0 : Out) (x1 : Int) : Option Int := ((laws_szRule.f k x0.fRule x1).bind fun t127 => (bif (decide (t127 < 0)) then some (-1) else some t127))
theorem laws_szOut.calls {k : Nat} {x0 : Out} {x1 : Int} {p0_0 : Value} {w : World} (hp0_0 : RdS kInt w p0_0 x0.fRule.fKeys) {r : Int} (H : laws_szOut.f k x0 x1 = some r) :
  Calls Tryz.prog 43 ([.agg #[(.int .i64 x0.fValue), p0_0, (.int .i64 x0.fRule.fNeed), (.int .i64 x0.fRule.fAfter)], .int .i64 x1] : List Value).toArray w (fun e w_ => ∃ v, e = .returned v ∧ v = (.int .i64 r) ∧ Mem w [] w_ []) := by
 have HM := Mem.start w
 refine calls_run (N := 12) Tryz.func43 rfl rfl rfl rfl ?_
 unfold laws_szOut.f at H
 refine run_seq ?_
 refine run_region rfl ?_
 refine od rfl rfl rfl rfl (does_box (cs := [.int .i64 x0.fValue, p0_0, .int .i64 x0.fRule.fNeed, .int .i64 x0.fRule.fAfter]) rfl rfl rfl HM) ?_
 rintro _ w126 ⟨b123, rfl, HM⟩
 refine ox rfl rfl rfl rfl (ex_assign rfl rfl) ?_
 refine ops_nil (at_then (run_seq ?_))
 obtain ⟨t127, h128, H⟩ := bind_some H
 refine run_region rfl ?_
 refine ox rfl rfl rfl rfl (ex_fieldAddr (off' := 1) rfl rfl Tryz.underlying62 rfl tsz60 rfl) ?_
 refine ox rfl rfl rfl rfl (ex_loadN (cs := [p0_0, (.int .i64 x0.fRule.fNeed), (.int .i64 x0.fRule.fAfter)]) rfl rfl Tryz.underlying60 rfl tsz60 rfl ((HM.box_at 0 rfl).sub 1 3 rfl)) ?_
 refine ox rfl rfl rfl rfl (ex_move rfl rfl) ?_
 refine od rfl rfl rfl rfl (does_callk rfl callok84 rfl (laws_szRule.calls (x0 := x0.fRule) (x1 := x1) (HM.rd hp0_0) h128)) ?_
 rintro _ w129 ⟨rfl, hn⟩
 replace HM : Mem w [] w129 [box b123 62 [.int .i64 x0.fValue, p0_0, .int .i64 x0.fRule.fNeed, .int .i64 x0.fRule.fAfter]] := HM.call hn
 refine ox rfl rfl rfl rfl (ex_assign rfl rfl) ?_
 refine ops_nil (at_then (run_seq ?_))
 refine run_seq ?_
 refine run_region rfl ?_
 refine ox rfl rfl rfl rfl (ex_move rfl rfl) ?_
 refine ox rfl rfl rfl rfl (ex_lss rfl rfl rfl) ?_
 refine ops_nil (at_then ?_)
 refine run_cond (b := (decide (t127 < 0))) rfl (fun hb130 => ?_) (fun hb130 => ?_)
 ·replace H := cond_t hb130 H
  refine run_seq ?_
  refine run_region rfl ?_
  refine ox rfl rfl rfl rfl (ex_assign rfl rfl) ?_
  refine ops_nil (at_then ?_)
  refine run_ret ?_
  refine at_then_ret ?_
  replace HM := (HM.front 0 rfl rfl).drop
  have hR := Option.some.inj H
  subst hR
  exact at_ret1 rfl rfl ⟨_, rfl, rfl, HM⟩
 ·replace H := cond_f hb130 H
  refine run_skip ?_
  refine at_then ?_
  refine run_seq ?_
  refine run_region rfl ?_
  refine ox rfl rfl rfl rfl (ex_move rfl rfl) ?_
  refine ox rfl rfl rfl rfl (ex_assign rfl rfl) ?_
  refine ops_nil (at_then ?_)
  refine run_ret ?_
  replace HM := (HM.front 0 rfl rfl).drop
  have hR := Option.some.inj H
  subst hR
  exact at_ret1 rfl rfl ⟨_, rfl, rfl, HM⟩

def laws_szCoin.f (k : Nat) (x0 : Coin) (x1 : Int) : Option Int := ((laws_szOut.f k x0.fOut x1).bind fun t138 => (bif (decide (t138 < 0)) then some (-1) else some t138))
theorem laws_szCoin.calls {k : Nat} {x0 : Coin} {x1 : Int} {p0_0 : Value} {w : World} (hp0_0 : RdS kInt w p0_0 x0.fOut.fRule.fKeys) {r : Int} (H : laws_szCoin.f k x0 x1 = some r) :
  Calls Tryz.prog 18 ([.agg #[(.int .i64 x0.fRef.fTx), (.int .i64 x0.fRef.fAt), (.int .i64 x0.fOut.fValue), p0_0, (.int .i64 x0.fOut.fRule.fNeed), (.int .i64 x0.fOut.fRule.fAfter), (.int .i64 x0.fHeight), (.bool x0.fMined)], .int .i64 x1] : List Value).toArray w (fun e w_ => ∃ v, e = .returned v ∧ v = (.int .i64 r) ∧ Mem w [] w_ []) := by
 have HM := Mem.start w
 refine calls_run (N := 12) Tryz.func18 rfl rfl rfl rfl ?_
 unfold laws_szCoin.f at H
 refine run_seq ?_
 refine run_region rfl ?_
 refine od rfl rfl rfl rfl (does_box (cs := [.int .i64 x0.fRef.fTx, .int .i64 x0.fRef.fAt, .int .i64 x0.fOut.fValue, p0_0, .int .i64 x0.fOut.fRule.fNeed, .int .i64 x0.fOut.fRule.fAfter, .int .i64 x0.fHeight, .bool x0.fMined]) rfl rfl rfl HM) ?_
 rintro _ w137 ⟨b134, rfl, HM⟩
 refine ox rfl rfl rfl rfl (ex_assign rfl rfl) ?_
 refine ops_nil (at_then (run_seq ?_))
 obtain ⟨t138, h139, H⟩ := bind_some H
 refine run_region rfl ?_
 refine ox rfl rfl rfl rfl (ex_fieldAddr (off' := 2) rfl rfl Tryz.underlying64 rfl tsz62 rfl) ?_
 refine ox rfl rfl rfl rfl (ex_loadN (cs := [(.int .i64 x0.fOut.fValue), p0_0, (.int .i64 x0.fOut.fRule.fNeed), (.int .i64 x0.fOut.fRule.fAfter)]) rfl rfl Tryz.underlying62 rfl tsz62 rfl ((HM.box_at 0 rfl).sub 2 4 rfl)) ?_
 refine ox rfl rfl rfl rfl (ex_move rfl rfl) ?_
 refine od rfl rfl rfl rfl (does_callk rfl callok43 rfl (laws_szOut.calls (x0 := x0.fOut) (x1 := x1) (HM.rd hp0_0) h139)) ?_
 rintro _ w140 ⟨rfl, hn⟩
 replace HM : Mem w [] w140 [box b134 64 [.int .i64 x0.fRef.fTx, .int .i64 x0.fRef.fAt, .int .i64 x0.fOut.fValue, p0_0, .int .i64 x0.fOut.fRule.fNeed, .int .i64 x0.fOut.fRule.fAfter, .int .i64 x0.fHeight, .bool x0.fMined]] := HM.call hn
 refine ox rfl rfl rfl rfl (ex_assign rfl rfl) ?_
 refine ops_nil (at_then (run_seq ?_))
 refine run_seq ?_
 refine run_region rfl ?_
 refine ox rfl rfl rfl rfl (ex_move rfl rfl) ?_
 refine ox rfl rfl rfl rfl (ex_lss rfl rfl rfl) ?_
 refine ops_nil (at_then ?_)
 refine run_cond (b := (decide (t138 < 0))) rfl (fun hb141 => ?_) (fun hb141 => ?_)
 ·replace H := cond_t hb141 H
  refine run_seq ?_
  refine run_region rfl ?_
  refine ox rfl rfl rfl rfl (ex_assign rfl rfl) ?_
  refine ops_nil (at_then ?_)
  refine run_ret ?_
  refine at_then_ret ?_
  replace HM := (HM.front 0 rfl rfl).drop
  have hR := Option.some.inj H
  subst hR
  exact at_ret1 rfl rfl ⟨_, rfl, rfl, HM⟩
 ·replace H := cond_f hb141 H
  refine run_skip ?_
  refine at_then ?_
  refine run_seq ?_
  refine run_region rfl ?_
  refine ox rfl rfl rfl rfl (ex_move rfl rfl) ?_
  refine ox rfl rfl rfl rfl (ex_assign rfl rfl) ?_
  refine ops_nil (at_then ?_)
  refine run_ret ?_
  replace HM := (HM.front 0 rfl rfl).drop
  have hR := Option.some.inj H
  subst hR
  exact at_ret1 rfl rfl ⟨_, rfl, rfl, HM⟩

def laws_szCoinS.l0 (x0 : List Coin) : Nat → Int → Int → Option (Int ⊕ Int)
 | 0, _, _ => none
 | k + 1, a205, a206 => (bif (decide (a206 < (x0.length : Int))) then (chk (idxOk a206 x0.length) ((laws_szCoin.f k (gt x0 a206) a205).bind fun t222 => (bif (decide (t222 < 0)) then some (.inl (-1)) else laws_szCoinS.l0 x0 k t222 (wrap64 (a206 + 1))))) else some (.inr a205))
theorem laws_szCoinS.l0_z (x0 : List Coin) (a205 : Int) (a206 : Int) : laws_szCoinS.l0 x0 0 a205 a206 = none := rfl
theorem laws_szCoinS.l0_s (x0 : List Coin) (k : Nat) (a205 : Int) (a206 : Int) : laws_szCoinS.l0 x0 (k + 1) a205 a206 = (bif (decide (a206 < (x0.length : Int))) then (chk (idxOk a206 x0.length) ((laws_szCoin.f k (gt x0 a206) a205).bind fun t222 => (bif (decide (t222 < 0)) then some (.inl (-1)) else laws_szCoinS.l0 x0 k t222 (wrap64 (a206 + 1))))) else some (.inr a205)) := rfl
def laws_szCoinS.f (k : Nat) (x0 : List Coin) (x1 : Int) : Option Int := (bif (decide ((wrap64 (x1 - (x0.length : Int))) < 0)) then some (-1) else ((laws_szCoinS.l0 x0 k (wrap64 (x1 - (x0.length : Int))) 0).bind fun o195 => thn o195 (fun r => some r) (fun a194 => some a194)))
theorem laws_szCoinS.calls {k : Nat} {x0 : List Coin} {x1 : Int} {p0 : Value} {w : World} (hp0 : RdS kCoin w p0 x0) {r : Int} (H : laws_szCoinS.f k x0 x1 = some r) :
  Calls Tryz.prog 5 ([p0, .int .i64 x1] : List Value).toArray w (fun e w_ => ∃ v, e = .returned v ∧ v = (.int .i64 r) ∧ Mem w [] w_ []) := by
 have HM := Mem.start w
 refine calls_run (N := 27) Tryz.func5 rfl rfl rfl rfl ?_
 unfold laws_szCoinS.f at H
 refine run_seq ?_
 refine run_region rfl ?_
 refine ox rfl rfl rfl rfl (ex_assign rfl rfl) ?_
 refine ops_nil (at_then (run_seq ?_))
 refine run_region rfl ?_
 refine ox rfl rfl rfl rfl (ex_move rfl rfl) ?_
 refine ox rfl rfl rfl rfl (ex_move rfl rfl) ?_
 refine ox rfl rfl rfl rfl (ex_len (d := kCoin) (xs := x0) rfl rfl Tryz.underlying26 hp0) ?_
 refine ox rfl rfl rfl rfl (ex_sub rfl rfl rfl) ?_
 refine ox rfl rfl rfl rfl (ex_assign rfl rfl) ?_
 refine ops_nil (at_then (run_seq ?_))
 refine run_seq ?_
 refine run_region rfl ?_
 refine ox rfl rfl rfl rfl (ex_move rfl rfl) ?_
 refine ox rfl rfl rfl rfl (ex_lss rfl rfl rfl) ?_
 refine ops_nil (at_then ?_)
 refine run_cond (b := (decide ((wrap64 (x1 - (x0.length : Int))) < 0))) rfl (fun hb167 => ?_) (fun hb167 => ?_)
 ·replace H := cond_t hb167 H
  refine run_seq ?_
  refine run_region rfl ?_
  refine ox rfl rfl rfl rfl (ex_assign rfl rfl) ?_
  refine ops_nil (at_then ?_)
  refine run_ret ?_
  refine at_then_ret ?_
  have hR := Option.some.inj H
  subst hR
  exact at_ret1 rfl rfl ⟨_, rfl, rfl, HM⟩
 ·replace H := cond_f hb167 H
  refine run_skip ?_
  refine at_then ?_
  obtain ⟨o195, ho196, H⟩ := bind_some H
  refine run_mid (fun ρ_ w_ => ∃ a194 : Int, Sum.inr a194 = o195 ∧ ρ_ = [(1, .int .i64 a194)] ∧ Mem w [] w_ []) ?_ ?_
  ·skip
   refine run_seq ?_
   refine run_region rfl ?_
   refine ox rfl rfl rfl rfl (ex_assign rfl rfl) ?_
   refine ops_nil (at_then ?_)
   refine run_block ?_
   refine run_loop (fun k_ ρ_ w_ => ∃ a205 : Int, ∃ a206 : Int, laws_szCoinS.l0 x0 k_ a205 a206 = some o195 ∧ ρ_ = [(0, p0), (1, .int .i64 a205), (5, .int .i64 a206)] ∧ Mem w [] w_ []) k (ρ1 := [(0, p0), (1, .int .i64 (wrap64 (x1 - (x0.length : Int)))), (5, .int .i64 0)]) ⟨_, _, ho196, rfl, HM⟩ (Sub.cons rfl (Sub.cons rfl (Sub.cons rfl Sub.nil))) ?_
   clear HM ho196
   rintro k215 _ w216 ⟨a205, a206, ho196, rfl, HM⟩
   obtain _ | k215 := k215
   ·exact nomatch ((laws_szCoinS.l0_z x0 a205 a206).symm.trans ho196)
   replace ho196 := (laws_szCoinS.l0_s x0 k215 a205 a206).symm.trans ho196
   refine run_seq ?_
   refine run_seq ?_
   refine run_region rfl ?_
   refine ox rfl rfl rfl rfl (ex_move rfl rfl) ?_
   refine ox rfl rfl rfl rfl (ex_move rfl rfl) ?_
   refine ox rfl rfl rfl rfl (ex_len (d := kCoin) (xs := x0) rfl rfl Tryz.underlying26 hp0) ?_
   refine ox rfl rfl rfl rfl (ex_lss rfl rfl rfl) ?_
   refine ops_nil (at_then ?_)
   refine run_cond (b := (decide (a206 < (x0.length : Int)))) rfl (fun hb217 => ?_) (fun hb217 => ?_)
   ·replace ho196 := cond_t hb217 ho196
    refine run_skip ?_
    refine at_then ?_
    refine run_seq ?_
    refine run_block ?_
    refine run_seq ?_
    obtain ⟨e218, ho196⟩ := chk_some ho196
    obtain ⟨t222, h223, ho196⟩ := bind_some ho196
    refine run_region rfl ?_
    refine ox rfl rfl rfl rfl (ex_move rfl rfl) ?_
    refine ox rfl rfl rfl rfl (ex_move rfl rfl) ?_
    obtain ⟨kv220, hc219, hk221⟩ : ∃ u, CellsAt _ (sb p0) (so p0 + (a206).toNat * 8) [(.int .i64 ((gt x0 a206).fRef.fTx)), (.int .i64 ((gt x0 a206).fRef.fAt)), (.int .i64 ((gt x0 a206).fOut.fValue)), u, (.int .i64 ((gt x0 a206).fOut.fRule.fNeed)), (.int .i64 ((gt x0 a206).fOut.fRule.fAfter)), (.int .i64 ((gt x0 a206).fHeight)), (.bool ((gt x0 a206).fMined))] ∧ RdS kInt _ u ((gt x0 a206).fOut.fRule.fKeys) := rd_with1 hp0 e218
    refine ox rfl rfl rfl rfl (ex_indexAddr (d := kCoin) rfl rfl rfl Tryz.underlying26 tsz64 hp0 (idx_lo e218) (idx_hi e218)) ?_
    refine ox rfl rfl rfl rfl (ex_loadN (cs := [(.int .i64 ((gt x0 a206).fRef.fTx)), (.int .i64 ((gt x0 a206).fRef.fAt)), (.int .i64 ((gt x0 a206).fOut.fValue)), kv220, (.int .i64 ((gt x0 a206).fOut.fRule.fNeed)), (.int .i64 ((gt x0 a206).fOut.fRule.fAfter)), (.int .i64 ((gt x0 a206).fHeight)), (.bool ((gt x0 a206).fMined))]) rfl rfl Tryz.underlying64 rfl tsz64 rfl ((HM.at_ hc219).sub 0 8 rfl)) ?_
    refine ox rfl rfl rfl rfl (ex_move rfl rfl) ?_
    refine od rfl rfl rfl rfl (does_callk rfl callok18 rfl (laws_szCoin.calls (x0 := (gt x0 a206)) (x1 := a205) (HM.rd hk221) h223)) ?_
    rintro _ w224 ⟨rfl, hn⟩
    replace HM : Mem w [] w224 [] := HM.call hn
    refine ox rfl rfl rfl rfl (ex_assign rfl rfl) ?_
    refine ops_nil (at_then (run_seq ?_))
    refine run_region rfl ?_
    refine ox rfl rfl rfl rfl (ex_move rfl rfl) ?_
    refine ox rfl rfl rfl rfl (ex_lss rfl rfl rfl) ?_
    refine ops_nil (at_then ?_)
    refine run_cond (b := (decide (t222 < 0))) rfl (fun hb225 => ?_) (fun hb225 => ?_)
    ·replace ho196 := cond_t hb225 ho196
     refine run_seq ?_
     refine run_region rfl ?_
     refine ox rfl rfl rfl rfl (ex_assign rfl rfl) ?_
     refine ops_nil (at_then ?_)
     refine run_ret ?_
     refine at_block_ret ?_
     refine at_then_ret ?_
     refine at_then_ret ?_
     refine at_block_ret ?_
     refine at_then_ret ?_
     have hR := Option.some.inj ho196
     subst hR
     have hT := thn_inl H
     have hR := Option.some.inj hT
     subst hR
     exact at_ret1 rfl rfl ⟨_, rfl, rfl, HM⟩
    ·replace ho196 := cond_f hb225 ho196
     refine run_skip ?_
     refine at_block ?_
     refine at_then ?_
     refine run_region rfl ?_
     refine ox rfl rfl rfl rfl (ex_move rfl rfl) ?_
     refine ox rfl rfl rfl rfl (ex_add rfl rfl rfl) ?_
     refine ox rfl rfl rfl rfl (ex_assign rfl rfl) ?_
     refine ops_nil ?_
     exact at_again k215 (ρ1 := [(0, p0), (1, .int .i64 t222), (5, .int .i64 (wrap64 (a206 + 1)))]) (Nat.lt_succ_self _) ⟨_, _, ho196, rfl, HM⟩ (Sub.cons rfl (Sub.cons rfl (Sub.cons rfl Sub.nil)))
   ·replace ho196 := cond_f hb217 ho196
    refine run_exit ?_
    refine at_then_exit ?_
    refine at_then_exit ?_
    refine at_block_exit ?_
    exact at_mid (ρ' := [(1, .int .i64 a205)]) ⟨_, (Option.some.inj ho196), rfl, HM⟩ (Sub.cons rfl Sub.nil)
  ·rintro _ w226 ⟨a194, rfl, rfl, HM⟩
   replace H := (thn_inr H)
   refine run_seq ?_
   refine run_region rfl ?_
   refine ox rfl rfl rfl rfl (ex_move rfl rfl) ?_
   refine ox rfl rfl rfl rfl (ex_assign rfl rfl) ?_
   refine ops_nil (at_then ?_)
   refine run_ret ?_
   have hR := Option.some.inj H
   subst hR
   exact at_ret1 rfl rfl ⟨_, rfl, rfl, HM⟩

def laws_szRefS.f (k : Nat) (x0 : List Ref) (x1 : Int) : Option Int := (bif (decide ((wrap64 (x1 - (x0.length : Int))) < 0)) then some (-1) else some (wrap64 (x1 - (x0.length : Int))))
theorem laws_szRefS.calls {k : Nat} {x0 : List Ref} {x1 : Int} {p0 : Value} {w : World} (hp0 : RdS kRef w p0 x0) {r : Int} (H : laws_szRefS.f k x0 x1 = some r) :
  Calls Tryz.prog 19 ([p0, .int .i64 x1] : List Value).toArray w (fun e w_ => ∃ v, e = .returned v ∧ v = (.int .i64 r) ∧ Mem w [] w_ []) := by
 have HM := Mem.start w
 refine calls_run (N := 12) Tryz.func19 rfl rfl rfl rfl ?_
 unfold laws_szRefS.f at H
 refine run_seq ?_
 refine run_region rfl ?_
 refine ox rfl rfl rfl rfl (ex_assign rfl rfl) ?_
 refine ops_nil (at_then (run_seq ?_))
 refine run_region rfl ?_
 refine ox rfl rfl rfl rfl (ex_move rfl rfl) ?_
 refine ox rfl rfl rfl rfl (ex_move rfl rfl) ?_
 refine ox rfl rfl rfl rfl (ex_len (d := kRef) (xs := x0) rfl rfl Tryz.underlying27 hp0) ?_
 refine ox rfl rfl rfl rfl (ex_sub rfl rfl rfl) ?_
 refine ox rfl rfl rfl rfl (ex_assign rfl rfl) ?_
 refine ops_nil (at_then (run_seq ?_))
 refine run_seq ?_
 refine run_region rfl ?_
 refine ox rfl rfl rfl rfl (ex_move rfl rfl) ?_
 refine ox rfl rfl rfl rfl (ex_lss rfl rfl rfl) ?_
 refine ops_nil (at_then ?_)
 refine run_cond (b := (decide ((wrap64 (x1 - (x0.length : Int))) < 0))) rfl (fun hb235 => ?_) (fun hb235 => ?_)
 ·replace H := cond_t hb235 H
  refine run_seq ?_
  refine run_region rfl ?_
  refine ox rfl rfl rfl rfl (ex_assign rfl rfl) ?_
  refine ops_nil (at_then ?_)
  refine run_ret ?_
  refine at_then_ret ?_
  have hR := Option.some.inj H
  subst hR
  exact at_ret1 rfl rfl ⟨_, rfl, rfl, HM⟩
 ·replace H := cond_f hb235 H
  refine run_skip ?_
  refine at_then ?_
  refine run_seq ?_
  refine run_region rfl ?_
  refine ox rfl rfl rfl rfl (ex_move rfl rfl) ?_
  refine ox rfl rfl rfl rfl (ex_assign rfl rfl) ?_
  refine ops_nil (at_then ?_)
  refine run_ret ?_
  have hR := Option.some.inj H
  subst hR
  exact at_ret1 rfl rfl ⟨_, rfl, rfl, HM⟩

def laws_szOutS.l0 (x0 : List Out) : Nat → Int → Int → Option (Int ⊕ Int)
 | 0, _, _ => none
 | k + 1, a310, a311 => (bif (decide (a311 < (x0.length : Int))) then (chk (idxOk a311 x0.length) ((laws_szOut.f k (gt x0 a311) a310).bind fun t327 => (bif (decide (t327 < 0)) then some (.inl (-1)) else laws_szOutS.l0 x0 k t327 (wrap64 (a311 + 1))))) else some (.inr a310))
theorem laws_szOutS.l0_z (x0 : List Out) (a310 : Int) (a311 : Int) : laws_szOutS.l0 x0 0 a310 a311 = none := rfl
theorem laws_szOutS.l0_s (x0 : List Out) (k : Nat) (a310 : Int) (a311 : Int) : laws_szOutS.l0 x0 (k + 1) a310 a311 = (bif (decide (a311 < (x0.length : Int))) then (chk (idxOk a311 x0.length) ((laws_szOut.f k (gt x0 a311) a310).bind fun t327 => (bif (decide (t327 < 0)) then some (.inl (-1)) else laws_szOutS.l0 x0 k t327 (wrap64 (a311 + 1))))) else some (.inr a310)) := rfl
def laws_szOutS.f (k : Nat) (x0 : List Out) (x1 : Int) : Option Int := (bif (decide ((wrap64 (x1 - (x0.length : Int))) < 0)) then some (-1) else ((laws_szOutS.l0 x0 k (wrap64 (x1 - (x0.length : Int))) 0).bind fun o300 => thn o300 (fun r => some r) (fun a299 => some a299)))
theorem laws_szOutS.calls {k : Nat} {x0 : List Out} {x1 : Int} {p0 : Value} {w : World} (hp0 : RdS kOut w p0 x0) {r : Int} (H : laws_szOutS.f k x0 x1 = some r) :
  Calls Tryz.prog 20 ([p0, .int .i64 x1] : List Value).toArray w (fun e w_ => ∃ v, e = .returned v ∧ v = (.int .i64 r) ∧ Mem w [] w_ []) := by
 have HM := Mem.start w
 refine calls_run (N := 27) Tryz.func20 rfl rfl rfl rfl ?_
 unfold laws_szOutS.f at H
 refine run_seq ?_
 refine run_region rfl ?_
 refine ox rfl rfl rfl rfl (ex_assign rfl rfl) ?_
 refine ops_nil (at_then (run_seq ?_))
 refine run_region rfl ?_
 refine ox rfl rfl rfl rfl (ex_move rfl rfl) ?_
 refine ox rfl rfl rfl rfl (ex_move rfl rfl) ?_
 refine ox rfl rfl rfl rfl (ex_len (d := kOut) (xs := x0) rfl rfl Tryz.underlying28 hp0) ?_
 refine ox rfl rfl rfl rfl (ex_sub rfl rfl rfl) ?_
 refine ox rfl rfl rfl rfl (ex_assign rfl rfl) ?_
 refine ops_nil (at_then (run_seq ?_))
 refine run_seq ?_
 refine run_region rfl ?_
 refine ox rfl rfl rfl rfl (ex_move rfl rfl) ?_
 refine ox rfl rfl rfl rfl (ex_lss rfl rfl rfl) ?_
 refine ops_nil (at_then ?_)
 refine run_cond (b := (decide ((wrap64 (x1 - (x0.length : Int))) < 0))) rfl (fun hb272 => ?_) (fun hb272 => ?_)
 ·replace H := cond_t hb272 H
  refine run_seq ?_
  refine run_region rfl ?_
  refine ox rfl rfl rfl rfl (ex_assign rfl rfl) ?_
  refine ops_nil (at_then ?_)
  refine run_ret ?_
  refine at_then_ret ?_
  have hR := Option.some.inj H
  subst hR
  exact at_ret1 rfl rfl ⟨_, rfl, rfl, HM⟩
 ·replace H := cond_f hb272 H
  refine run_skip ?_
  refine at_then ?_
  obtain ⟨o300, ho301, H⟩ := bind_some H
  refine run_mid (fun ρ_ w_ => ∃ a299 : Int, Sum.inr a299 = o300 ∧ ρ_ = [(1, .int .i64 a299)] ∧ Mem w [] w_ []) ?_ ?_
  ·skip
   refine run_seq ?_
   refine run_region rfl ?_
   refine ox rfl rfl rfl rfl (ex_assign rfl rfl) ?_
   refine ops_nil (at_then ?_)
   refine run_block ?_
   refine run_loop (fun k_ ρ_ w_ => ∃ a310 : Int, ∃ a311 : Int, laws_szOutS.l0 x0 k_ a310 a311 = some o300 ∧ ρ_ = [(0, p0), (1, .int .i64 a310), (5, .int .i64 a311)] ∧ Mem w [] w_ []) k (ρ1 := [(0, p0), (1, .int .i64 (wrap64 (x1 - (x0.length : Int)))), (5, .int .i64 0)]) ⟨_, _, ho301, rfl, HM⟩ (Sub.cons rfl (Sub.cons rfl (Sub.cons rfl Sub.nil))) ?_
   clear HM ho301
   rintro k320 _ w321 ⟨a310, a311, ho301, rfl, HM⟩
   obtain _ | k320 := k320
   ·exact nomatch ((laws_szOutS.l0_z x0 a310 a311).symm.trans ho301)
   replace ho301 := (laws_szOutS.l0_s x0 k320 a310 a311).symm.trans ho301
   refine run_seq ?_
   refine run_seq ?_
   refine run_region rfl ?_
   refine ox rfl rfl rfl rfl (ex_move rfl rfl) ?_
   refine ox rfl rfl rfl rfl (ex_move rfl rfl) ?_
   refine ox rfl rfl rfl rfl (ex_len (d := kOut) (xs := x0) rfl rfl Tryz.underlying28 hp0) ?_
   refine ox rfl rfl rfl rfl (ex_lss rfl rfl rfl) ?_
   refine ops_nil (at_then ?_)
   refine run_cond (b := (decide (a311 < (x0.length : Int)))) rfl (fun hb322 => ?_) (fun hb322 => ?_)
   ·replace ho301 := cond_t hb322 ho301
    refine run_skip ?_
    refine at_then ?_
    refine run_seq ?_
    refine run_block ?_
    refine run_seq ?_
    obtain ⟨e323, ho301⟩ := chk_some ho301
    obtain ⟨t327, h328, ho301⟩ := bind_some ho301
    refine run_region rfl ?_
    refine ox rfl rfl rfl rfl (ex_move rfl rfl) ?_
    refine ox rfl rfl rfl rfl (ex_move rfl rfl) ?_
    obtain ⟨kv325, hc324, hk326⟩ : ∃ u, CellsAt _ (sb p0) (so p0 + (a311).toNat * 4) [(.int .i64 ((gt x0 a311).fValue)), u, (.int .i64 ((gt x0 a311).fRule.fNeed)), (.int .i64 ((gt x0 a311).fRule.fAfter))] ∧ RdS kInt _ u ((gt x0 a311).fRule.fKeys) := rd_with1 hp0 e323
    refine ox rfl rfl rfl rfl (ex_indexAddr (d := kOut) rfl rfl rfl Tryz.underlying28 tsz62 hp0 (idx_lo e323) (idx_hi e323)) ?_
    refine ox rfl rfl rfl rfl (ex_loadN (cs := [(.int .i64 ((gt x0 a311).fValue)), kv325, (.int .i64 ((gt x0 a311).fRule.fNeed)), (.int .i64 ((gt x0 a311).fRule.fAfter))]) rfl rfl Tryz.underlying62 rfl tsz62 rfl ((HM.at_ hc324).sub 0 4 rfl)) ?_
    refine ox rfl rfl rfl rfl (ex_move rfl rfl) ?_
    refine od rfl rfl rfl rfl (does_callk rfl callok43 rfl (laws_szOut.calls (x0 := (gt x0 a311)) (x1 := a310) (HM.rd hk326) h328)) ?_
    rintro _ w329 ⟨rfl, hn⟩
    replace HM : Mem w [] w329 [] := HM.call hn
    refine ox rfl rfl rfl rfl (ex_assign rfl rfl) ?_
    refine ops_nil (at_then (run_seq ?_))
    refine run_region rfl ?_
    refine ox rfl rfl rfl rfl (ex_move rfl rfl) ?_
    refine ox rfl rfl rfl rfl (ex_lss rfl rfl rfl) ?_
    refine ops_nil (at_then ?_)
    refine run_cond (b := (decide (t327 < 0))) rfl (fun hb330 => ?_) (fun hb330 => ?_)
    ·replace ho301 := cond_t hb330 ho301
     refine run_seq ?_
     refine run_region rfl ?_
     refine ox rfl rfl rfl rfl (ex_assign rfl rfl) ?_
     refine ops_nil (at_then ?_)
     refine run_ret ?_
     refine at_block_ret ?_
     refine at_then_ret ?_
     refine at_then_ret ?_
     refine at_block_ret ?_
     refine at_then_ret ?_
     have hR := Option.some.inj ho301
     subst hR
     have hT := thn_inl H
     have hR := Option.some.inj hT
     subst hR
     exact at_ret1 rfl rfl ⟨_, rfl, rfl, HM⟩
    ·replace ho301 := cond_f hb330 ho301
     refine run_skip ?_
     refine at_block ?_
     refine at_then ?_
     refine run_region rfl ?_
     refine ox rfl rfl rfl rfl (ex_move rfl rfl) ?_
     refine ox rfl rfl rfl rfl (ex_add rfl rfl rfl) ?_
     refine ox rfl rfl rfl rfl (ex_assign rfl rfl) ?_
     refine ops_nil ?_
     exact at_again k320 (ρ1 := [(0, p0), (1, .int .i64 t327), (5, .int .i64 (wrap64 (a311 + 1)))]) (Nat.lt_succ_self _) ⟨_, _, ho301, rfl, HM⟩ (Sub.cons rfl (Sub.cons rfl (Sub.cons rfl Sub.nil)))
   ·replace ho301 := cond_f hb322 ho301
    refine run_exit ?_
    refine at_then_exit ?_
    refine at_then_exit ?_
    refine at_block_exit ?_
    exact at_mid (ρ' := [(1, .int .i64 a310)]) ⟨_, (Option.some.inj ho301), rfl, HM⟩ (Sub.cons rfl Sub.nil)
  ·rintro _ w331 ⟨a299, rfl, rfl, HM⟩
   replace H := (thn_inr H)
   refine run_seq ?_
   refine run_region rfl ?_
   refine ox rfl rfl rfl rfl (ex_move rfl rfl) ?_
   refine ox rfl rfl rfl rfl (ex_assign rfl rfl) ?_
   refine ops_nil (at_then ?_)
   refine run_ret ?_
   have hR := Option.some.inj H
   subst hR
   exact at_ret1 rfl rfl ⟨_, rfl, rfl, HM⟩

def laws_szTx.f (k : Nat) (x0 : Tx) (x1 : Int) : Option Int := ((laws_szRefS.f k x0.fIns x1).bind fun t339 => (bif (decide (t339 < 0)) then some (-1) else ((laws_szOutS.f k x0.fOuts t339).bind fun t344 => (bif (decide (t344 < 0)) then some (-1) else some t344))))
theorem laws_szTx.calls {k : Nat} {x0 : Tx} {x1 : Int} {p0_0 : Value} {p0_1 : Value} {w : World} (hp0_0 : RdS kRef w p0_0 x0.fIns) (hp0_1 : RdS kOut w p0_1 x0.fOuts) {r : Int} (H : laws_szTx.f k x0 x1 = some r) :
  Calls Tryz.prog 6 ([.agg #[(.int .i64 x0.fKind), (.int .i64 x0.fMember), p0_0, p0_1], .int .i64 x1] : List Value).toArray w (fun e w_ => ∃ v, e = .returned v ∧ v = (.int .i64 r) ∧ Mem w [] w_ []) := by
 have HM := Mem.start w
 refine calls_run (N := 18) Tryz.func6 rfl rfl rfl rfl ?_
 unfold laws_szTx.f at H
 refine run_seq ?_
 refine run_region rfl ?_
 refine od rfl rfl rfl rfl (does_box (cs := [.int .i64 x0.fKind, .int .i64 x0.fMember, p0_0, p0_1]) rfl rfl rfl HM) ?_
 rintro _ w338 ⟨b335, rfl, HM⟩
 refine ox rfl rfl rfl rfl (ex_assign rfl rfl) ?_
 refine ops_nil (at_then (run_seq ?_))
 obtain ⟨t339, h340, H⟩ := bind_some H
 refine run_region rfl ?_
 refine ox rfl rfl rfl rfl (ex_fieldAddr (off' := 2) rfl rfl Tryz.underlying30 rfl tsz27 rfl) ?_
 refine ox rfl rfl rfl rfl (ex_load1 rfl rfl Tryz.underlying27 rfl ((HM.box_at 0 rfl) 2 _ rfl)) ?_
 refine ox rfl rfl rfl rfl (ex_move rfl rfl) ?_
 refine od rfl rfl rfl rfl (does_callk rfl callok19 rfl (laws_szRefS.calls (x0 := x0.fIns) (x1 := x1) (HM.rd hp0_0) h340)) ?_
 rintro _ w341 ⟨rfl, hn⟩
 replace HM : Mem w [] w341 [box b335 30 [.int .i64 x0.fKind, .int .i64 x0.fMember, p0_0, p0_1]] := HM.call hn
 refine ox rfl rfl rfl rfl (ex_assign rfl rfl) ?_
 refine ops_nil (at_then (run_seq ?_))
 refine run_seq ?_
 refine run_region rfl ?_
 refine ox rfl rfl rfl rfl (ex_move rfl rfl) ?_
 refine ox rfl rfl rfl rfl (ex_lss rfl rfl rfl) ?_
 refine ops_nil (at_then ?_)
 refine run_cond (b := (decide (t339 < 0))) rfl (fun hb343 => ?_) (fun hb343 => ?_)
 ·replace H := cond_t hb343 H
  refine run_seq ?_
  refine run_region rfl ?_
  refine ox rfl rfl rfl rfl (ex_assign rfl rfl) ?_
  refine ops_nil (at_then ?_)
  refine run_ret ?_
  refine at_then_ret ?_
  replace HM := (HM.front 0 rfl rfl).drop
  have hR := Option.some.inj H
  subst hR
  exact at_ret1 rfl rfl ⟨_, rfl, rfl, HM⟩
 ·replace H := cond_f hb343 H
  refine run_skip ?_
  refine at_then ?_
  refine run_seq ?_
  obtain ⟨t344, h345, H⟩ := bind_some H
  refine run_region rfl ?_
  refine ox rfl rfl rfl rfl (ex_fieldAddr (off' := 3) rfl rfl Tryz.underlying30 rfl tsz28 rfl) ?_
  refine ox rfl rfl rfl rfl (ex_load1 rfl rfl Tryz.underlying28 rfl ((HM.box_at 0 rfl) 3 _ rfl)) ?_
  refine ox rfl rfl rfl rfl (ex_move rfl rfl) ?_
  refine od rfl rfl rfl rfl (does_callk rfl callok20 rfl (laws_szOutS.calls (x0 := x0.fOuts) (x1 := t339) (HM.rd hp0_1) h345)) ?_
  rintro _ w346 ⟨rfl, hn⟩
  replace HM : Mem w [] w346 [box b335 30 [.int .i64 x0.fKind, .int .i64 x0.fMember, p0_0, p0_1]] := HM.call hn
  refine ox rfl rfl rfl rfl (ex_assign rfl rfl) ?_
  refine ops_nil (at_then (run_seq ?_))
  refine run_seq ?_
  refine run_region rfl ?_
  refine ox rfl rfl rfl rfl (ex_move rfl rfl) ?_
  refine ox rfl rfl rfl rfl (ex_lss rfl rfl rfl) ?_
  refine ops_nil (at_then ?_)
  refine run_cond (b := (decide (t344 < 0))) rfl (fun hb347 => ?_) (fun hb347 => ?_)
  ·replace H := cond_t hb347 H
   refine run_seq ?_
   refine run_region rfl ?_
   refine ox rfl rfl rfl rfl (ex_assign rfl rfl) ?_
   refine ops_nil (at_then ?_)
   refine run_ret ?_
   refine at_then_ret ?_
   replace HM := (HM.front 0 rfl rfl).drop
   have hR := Option.some.inj H
   subst hR
   exact at_ret1 rfl rfl ⟨_, rfl, rfl, HM⟩
  ·replace H := cond_f hb347 H
   refine run_skip ?_
   refine at_then ?_
   refine run_seq ?_
   refine run_region rfl ?_
   refine ox rfl rfl rfl rfl (ex_move rfl rfl) ?_
   refine ox rfl rfl rfl rfl (ex_assign rfl rfl) ?_
   refine ops_nil (at_then ?_)
   refine run_ret ?_
   replace HM := (HM.front 0 rfl rfl).drop
   have hR := Option.some.inj H
   subst hR
   exact at_ret1 rfl rfl ⟨_, rfl, rfl, HM⟩

def laws_toStringS.l0 (x0 : List ByteArray) : Nat → (List ByteArray) → Int → Option ((List ByteArray))
 | 0, _, _ => none
 | k + 1, a419, a421 => (bif (decide (a421 < (x0.length : Int))) then (chk (idxOk a421 x0.length) (chk (idxOk a421 a419.length) (laws_toStringS.l0 x0 k (a419.set (a421).toNat (gt x0 a421)) (wrap64 (a421 + 1))))) else some a419)
theorem laws_toStringS.l0_z (x0 : List ByteArray) (a419 : List ByteArray) (a421 : Int) : laws_toStringS.l0 x0 0 a419 a421 = none := rfl
theorem laws_toStringS.l0_s (x0 : List ByteArray) (k : Nat) (a419 : List ByteArray) (a421 : Int) : laws_toStringS.l0 x0 (k + 1) a419 a421 = (bif (decide (a421 < (x0.length : Int))) then (chk (idxOk a421 x0.length) (chk (idxOk a421 a419.length) (laws_toStringS.l0 x0 k (a419.set (a421).toNat (gt x0 a421)) (wrap64 (a421 + 1))))) else some a419) := rfl
def laws_toStringS.f (k : Nat) (x0 : List ByteArray) : Option ((List ByteArray)) := (chk (decide (0 ≤ (x0.length : Int))) (chk (leB (((x0.length : Int)).toNat * 16) 281474976710656) ((laws_toStringS.l0 x0 k (List.replicate ((x0.length : Int)).toNat (⟨#[]⟩ : ByteArray)) 0).bind (fun a410 => some a410))))
theorem laws_toStringS.calls {k : Nat} {x0 : List ByteArray} {p0 : Value} {w : World} (hp0 : RdS kStr w p0 x0) {r : (List ByteArray)} (H : laws_toStringS.f k x0 = some r) :
  Calls Tryz.prog 28 ([p0] : List Value).toArray w (fun e w_ => ∃ v, e = .returned v ∧ ∃ u0 : Value, v = u0 ∧ Mem w [] w_ [own kStr 9 u0 r]) := by
 have HM := Mem.start w
 refine calls_run (N := 22) Tryz.func28 rfl rfl rfl rfl ?_
 unfold laws_toStringS.f at H
 refine run_seq ?_
 refine run_region rfl ?_
 refine ox rfl rfl rfl rfl (ex_assign rfl rfl) ?_
 refine ops_nil (at_then (run_seq ?_))
 obtain ⟨e390, H⟩ := chk_some H
 obtain ⟨e391, H⟩ := chk_some H
 refine run_region rfl ?_
 refine ox rfl rfl rfl rfl (ex_move rfl rfl) ?_
 refine ox rfl rfl rfl rfl (ex_len (d := kStr) (xs := x0) rfl rfl Tryz.underlying22 hp0) ?_
 refine od rfl rfl rfl rfl (does_make (x := (⟨#[]⟩ : ByteArray)) kStr rfl rfl rfl Tryz.underlying22 tsz9 tby9 tz9 rfl rfl (fun _ => ⟨rfl, rfl⟩) (of_decide_eq_true e390) rfl (leB_le e391) rfl HM) ?_
 rintro v387 w392 HM
 refine ox rfl rfl rfl rfl (ex_assign rfl rfl) ?_
 refine ops_nil (at_then ?_)
 obtain ⟨o412, ho413, H⟩ := bind_some H
 refine run_mid (fun ρ_ w_ => ∃ v409 : Value, ∃ a410 : List ByteArray, a410 = o412 ∧ ρ_ = [(3, v409)] ∧ Mem w [] w_ [own kStr 9 v409 a410]) ?_ ?_
 ·clear H
  refine run_seq ?_
  refine run_region rfl ?_
  refine ox rfl rfl rfl rfl (ex_assign rfl rfl) ?_
  refine ops_nil (at_then ?_)
  refine run_block ?_
  refine run_loop (fun k_ ρ_ w_ => ∃ v418 : Value, ∃ a419 : List ByteArray, ∃ a421 : Int, laws_toStringS.l0 x0 k_ a419 a421 = some o412 ∧ ρ_ = [(0, p0), (3, v418), (4, .int .i64 a421)] ∧ Mem w [] w_ [own kStr 9 v418 a419]) k (ρ1 := [(0, p0), (3, v387), (4, .int .i64 0)]) ⟨_, _, _, ho413, rfl, HM⟩ (Sub.cons rfl (Sub.cons rfl (Sub.cons rfl Sub.nil))) ?_
  clear HM ho413
  rintro k426 _ w427 ⟨v418, a419, a421, ho413, rfl, HM⟩
  obtain _ | k426 := k426
  ·exact nomatch ((laws_toStringS.l0_z x0 a419 a421).symm.trans ho413)
  replace ho413 := (laws_toStringS.l0_s x0 k426 a419 a421).symm.trans ho413
  refine run_seq ?_
  refine run_seq ?_
  refine run_region rfl ?_
  refine ox rfl rfl rfl rfl (ex_move rfl rfl) ?_
  refine ox rfl rfl rfl rfl (ex_move rfl rfl) ?_
  refine ox rfl rfl rfl rfl (ex_len (d := kStr) (xs := x0) rfl rfl Tryz.underlying22 hp0) ?_
  refine ox rfl rfl rfl rfl (ex_lss rfl rfl rfl) ?_
  refine ops_nil (at_then ?_)
  refine run_cond (b := (decide (a421 < (x0.length : Int)))) rfl (fun hb428 => ?_) (fun hb428 => ?_)
  ·replace ho413 := cond_t hb428 ho413
   refine run_skip ?_
   refine at_then ?_
   refine run_seq ?_
   refine run_block ?_
   obtain ⟨e429, ho413⟩ := chk_some ho413
   obtain ⟨e431, ho413⟩ := chk_some ho413
   refine run_region rfl ?_
   refine ox rfl rfl rfl rfl (ex_move rfl rfl) ?_
   refine ox rfl rfl rfl rfl (ex_move rfl rfl) ?_
   refine ox rfl rfl rfl rfl (ex_move rfl rfl) ?_
   refine ox rfl rfl rfl rfl (ex_move rfl rfl) ?_
   have hc430 : CellsAt _ (sb p0) (so p0 + (a421).toNat * 1) [(.string (gt x0 a421))] := rd_plain hp0 e429
   refine ox rfl rfl rfl rfl (ex_indexAddr (d := kStr) rfl rfl rfl Tryz.underlying22 tsz9 hp0 (idx_lo e429) (idx_hi e429)) ?_
   refine ox rfl rfl rfl rfl (ex_load1 rfl rfl Tryz.underlying9 rfl ((HM.at_ hc430) 0 _ rfl)) ?_
   refine ox rfl rfl rfl rfl (ex_indexAddr (d := kStr) rfl rfl rfl Tryz.underlying22 tsz9 (HM.own_rd 0 rfl) (idx_lo e431) (idx_hi e431)) ?_
   refine odS rfl rfl rfl (does_setElem (vs := [(.string (gt x0 a421))]) (y := (gt x0 a421)) kStr rfl rfl rfl rfl rfl tsz9 rfl rfl (idx_nat e431) (fun _ _ h => ⟨rfl, h⟩) (HM.emp.front 1 rfl rfl)) ?_
   rintro w432 HM
   refine ops_nil ?_
   refine at_block ?_
   refine at_then ?_
   refine run_region rfl ?_
   refine ox rfl rfl rfl rfl (ex_move rfl rfl) ?_
   refine ox rfl rfl rfl rfl (ex_add rfl rfl rfl) ?_
   refine ox rfl rfl rfl rfl (ex_assign rfl rfl) ?_
   refine ops_nil ?_
   exact at_again k426 (ρ1 := [(0, p0), (3, v418), (4, .int .i64 (wrap64 (a421 + 1)))]) (Nat.lt_succ_self _) ⟨_, _, _, ho413, rfl, HM⟩ (Sub.cons rfl (Sub.cons rfl (Sub.cons rfl Sub.nil)))
  ·replace ho413 := cond_f hb428 ho413
   refine run_exit ?_
   refine at_then_exit ?_
   refine at_then_exit ?_
   refine at_block_exit ?_
   exact at_mid (ρ' := [(3, v418)]) ⟨_, _, (Option.some.inj ho413), rfl, HM⟩ (Sub.cons rfl Sub.nil)
 ·rintro _ w433 ⟨v409, a410, rfl, rfl, HM⟩
  refine run_seq ?_
  refine run_region rfl ?_
  refine ox rfl rfl rfl rfl (ex_move rfl rfl) ?_
  refine ox rfl rfl rfl rfl (ex_assign rfl rfl) ?_
  refine ops_nil (at_then ?_)
  refine run_ret ?_
  have hR := Option.some.inj H
  subst hR
  exact at_ret1 rfl rfl ⟨_, rfl, _, rfl, HM⟩

def laws_toSign.f (k : Nat) (x0 : Sign) : Option Sign := some x0
theorem laws_toSign.calls {k : Nat} {x0 : Sign}  {w : World}  {r : Sign} (H : laws_toSign.f k x0 = some r) :
  Calls Tryz.prog 59 ([.agg #[(.int .i64 x0.fKey), (.int .i64 x0.fId)]] : List Value).toArray w (fun e w_ => ∃ v, e = .returned v ∧ v = (.agg #[.int .i64 r.fKey, .int .i64 r.fId]) ∧ Mem w [] w_ []) := by
 have HM := Mem.start w
 refine calls_run (N := 11) Tryz.func59 rfl rfl rfl rfl ?_
 unfold laws_toSign.f at H
 refine run_seq ?_
 refine run_region rfl ?_
 refine od rfl rfl rfl rfl (does_box (cs := [.int .i64 x0.fKey, .int .i64 x0.fId]) rfl rfl rfl HM) ?_
 rintro _ w461 ⟨b455, rfl, HM⟩
 refine od rfl rfl rfl rfl (does_alloc (cs := [.int .i64 0, .int .i64 0]) rfl tz100 rfl HM) ?_
 rintro _ w462 ⟨b458, rfl, HM⟩
 refine ops_nil (at_then (run_seq ?_))
 refine run_region rfl ?_
 refine od rfl rfl rfl rfl (does_alloc (cs := [.int .i64 0, .int .i64 0]) rfl tz100 rfl HM) ?_
 rintro _ w466 ⟨b463, rfl, HM⟩
 refine ops_nil (at_then (run_seq ?_))
 refine run_region rfl ?_
 refine ox rfl rfl rfl rfl (ex_fieldAddr (off' := 0) rfl rfl Tryz.underlying117 rfl tsz2 rfl) ?_
 refine ox rfl rfl rfl rfl (ex_load1 rfl rfl Tryz.underlying2 rfl ((HM.box_at 2 rfl) 0 _ rfl)) ?_
 refine ox rfl rfl rfl rfl (ex_fieldAddr (off' := 0) rfl rfl Tryz.underlying100 rfl tsz2 rfl) ?_
 refine odS rfl rfl rfl (does_store (vs := [.int .i64 x0.fKey]) (cs' := [.int .i64 x0.fKey, .int .i64 0]) rfl rfl rfl rfl tsz2 (Ones.int Ones.nil) rfl rfl HM) ?_
 rintro w467 HM
 refine ops_nil (at_then (run_seq ?_))
 refine run_region rfl ?_
 refine ox rfl rfl rfl rfl (ex_fieldAddr (off' := 1) rfl rfl Tryz.underlying117 rfl tsz2 rfl) ?_
 refine ox rfl rfl rfl rfl (ex_load1 rfl rfl Tryz.underlying2 rfl ((HM.box_at 2 rfl) 1 _ rfl)) ?_
 refine ox rfl rfl rfl rfl (ex_fieldAddr (off' := 1) rfl rfl Tryz.underlying100 rfl tsz2 rfl) ?_
 refine odS rfl rfl rfl (does_store (vs := [.int .i64 x0.fId]) (cs' := [.int .i64 x0.fKey, .int .i64 x0.fId]) rfl rfl rfl rfl tsz2 (Ones.int Ones.nil) rfl rfl HM) ?_
 rintro w468 HM
 refine ops_nil (at_then (run_seq ?_))
 refine run_region rfl ?_
 refine ox rfl rfl rfl rfl (ex_loadN (cs := [(.int .i64 x0.fKey), (.int .i64 x0.fId)]) rfl rfl Tryz.underlying100 rfl tsz100 rfl ((HM.box_at 0 rfl).sub 0 2 rfl)) ?_
 replace HM := HM.front 1 rfl rfl
 refine odS rfl rfl rfl (does_store (vs := [.int .i64 x0.fKey, .int .i64 x0.fId]) (cs' := [.int .i64 x0.fKey, .int .i64 x0.fId]) rfl rfl rfl rfl tsz100 (Ones.int (Ones.int Ones.nil)) rfl rfl HM) ?_
 rintro w469 HM
 refine ops_nil (at_then ?_)
 refine run_ret ?_
 replace HM := (HM.front 1 rfl rfl).drop
 replace HM := (HM.front 1 rfl rfl).drop
 have hcb0 := HM.box_at 0 rfl
 replace HM := (HM.front 0 rfl rfl).drop
 have hR := Option.some.inj H
 subst hR
 exact at_retN rfl rfl Tryz.underlying100 rfl tsz100 rfl hcb0 ⟨_, rfl, rfl, HM⟩

def laws_toSignS.l0 (x0 : List Sign) : Nat → (List Sign) → Int → Option ((List Sign))
 | 0, _, _ => none
 | k + 1, a534, a536 => (bif (decide (a536 < (x0.length : Int))) then (chk (idxOk a536 x0.length) ((laws_toSign.f k (gt x0 a536)).bind fun t548 => (chk (idxOk a536 a534.length) (laws_toSignS.l0 x0 k (a534.set (a536).toNat t548) (wrap64 (a536 + 1)))))) else some a534)
theorem laws_toSignS.l0_z (x0 : List Sign) (a534 : List Sign) (a536 : Int) : laws_toSignS.l0 x0 0 a534 a536 = none := rfl
theorem laws_toSignS.l0_s (x0 : List Sign) (k : Nat) (a534 : List Sign) (a536 : Int) : laws_toSignS.l0 x0 (k + 1) a534 a536 = (bif (decide (a536 < (x0.length : Int))) then (chk (idxOk a536 x0.length) ((laws_toSign.f k (gt x0 a536)).bind fun t548 => (chk (idxOk a536 a534.length) (laws_toSignS.l0 x0 k (a534.set (a536).toNat t548) (wrap64 (a536 + 1)))))) else some a534) := rfl
def laws_toSignS.f (k : Nat) (x0 : List Sign) : Option ((List Sign)) := (chk (decide (0 ≤ (x0.length : Int))) (chk (leB (((x0.length : Int)).toNat * 16) 281474976710656) ((laws_toSignS.l0 x0 k (List.replicate ((x0.length : Int)).toNat (⟨0, 0⟩ : Sign)) 0).bind (fun a523 => some a523))))
theorem laws_toSignS.calls {k : Nat} {x0 : List Sign} {p0 : Value} {w : World} (hp0 : RdS kSign w p0 x0) {r : (List Sign)} (H : laws_toSignS.f k x0 = some r) :
  Calls Tryz.prog 29 ([p0] : List Value).toArray w (fun e w_ => ∃ v, e = .returned v ∧ ∃ u0 : Value, v = u0 ∧ Mem w [] w_ [own kSign 100 u0 r]) := by
 have HM := Mem.start w
 refine calls_run (N := 23) Tryz.func29 rfl rfl rfl rfl ?_
 unfold laws_toSignS.f at H
 refine run_seq ?_
 refine run_region rfl ?_
 refine ox rfl rfl rfl rfl (ex_assign rfl rfl) ?_
 refine ops_nil (at_then (run_seq ?_))
 obtain ⟨e497, H⟩ := chk_some H
 obtain ⟨e498, H⟩ := chk_some H
 refine run_region rfl ?_
 refine ox rfl rfl rfl rfl (ex_move rfl rfl) ?_
 refine ox rfl rfl rfl rfl (ex_len (d := kSign) (xs := x0) rfl rfl Tryz.underlying23 hp0) ?_
 refine od rfl rfl rfl rfl (does_make (x := (⟨0, 0⟩ : Sign)) kSign rfl rfl rfl Tryz.underlying37 tsz100 tby100 tz100 rfl rfl (fun _ => ⟨rfl, rfl⟩) (of_decide_eq_true e497) rfl (leB_le e498) rfl HM) ?_
 rintro v494 w499 HM
 refine ox rfl rfl rfl rfl (ex_assign rfl rfl) ?_
 refine ops_nil (at_then ?_)
 obtain ⟨o525, ho526, H⟩ := bind_some H
 refine run_mid (fun ρ_ w_ => ∃ v522 : Value, ∃ a523 : List Sign, a523 = o525 ∧ ρ_ = [(3, v522)] ∧ Mem w [] w_ [own kSign 100 v522 a523]) ?_ ?_
 ·clear H
  refine run_seq ?_
  refine run_region rfl ?_
  refine ox rfl rfl rfl rfl (ex_assign rfl rfl) ?_
  refine ops_nil (at_then ?_)
  refine run_block ?_
  refine run_loop (fun k_ ρ_ w_ => ∃ v533 : Value, ∃ a534 : List Sign, ∃ a536 : Int, laws_toSignS.l0 x0 k_ a534 a536 = some o525 ∧ ρ_ = [(0, p0), (3, v533), (4, .int .i64 a536)] ∧ Mem w [] w_ [own kSign 100 v533 a534]) k (ρ1 := [(0, p0), (3, v494), (4, .int .i64 0)]) ⟨_, _, _, ho526, rfl, HM⟩ (Sub.cons rfl (Sub.cons rfl (Sub.cons rfl Sub.nil))) ?_
  clear HM ho526
  rintro k543 _ w544 ⟨v533, a534, a536, ho526, rfl, HM⟩
  obtain _ | k543 := k543
  ·exact nomatch ((laws_toSignS.l0_z x0 a534 a536).symm.trans ho526)
  replace ho526 := (laws_toSignS.l0_s x0 k543 a534 a536).symm.trans ho526
  refine run_seq ?_
  refine run_seq ?_
  refine run_region rfl ?_
  refine ox rfl rfl rfl rfl (ex_move rfl rfl) ?_
  refine ox rfl rfl rfl rfl (ex_move rfl rfl) ?_
  refine ox rfl rfl rfl rfl (ex_len (d := kSign) (xs := x0) rfl rfl Tryz.underlying23 hp0) ?_
  refine ox rfl rfl rfl rfl (ex_lss rfl rfl rfl) ?_
  refine ops_nil (at_then ?_)
  refine run_cond (b := (decide (a536 < (x0.length : Int)))) rfl (fun hb545 => ?_) (fun hb545 => ?_)
  ·replace ho526 := cond_t hb545 ho526
   refine run_skip ?_
   refine at_then ?_
   refine run_seq ?_
   refine run_block ?_
   obtain ⟨e546, ho526⟩ := chk_some ho526
   obtain ⟨t548, h549, ho526⟩ := bind_some ho526
   obtain ⟨e550, ho526⟩ := chk_some ho526
   refine run_region rfl ?_
   refine ox rfl rfl rfl rfl (ex_move rfl rfl) ?_
   refine ox rfl rfl rfl rfl (ex_move rfl rfl) ?_
   refine ox rfl rfl rfl rfl (ex_move rfl rfl) ?_
   refine ox rfl rfl rfl rfl (ex_move rfl rfl) ?_
   have hc547 : CellsAt _ (sb p0) (so p0 + (a536).toNat * 2) [(.int .i64 ((gt x0 a536).fKey)), (.int .i64 ((gt x0 a536).fId))] := rd_plain hp0 e546
   refine ox rfl rfl rfl rfl (ex_indexAddr (d := kSign) rfl rfl rfl Tryz.underlying23 tsz117 hp0 (idx_lo e546) (idx_hi e546)) ?_
   refine ox rfl rfl rfl rfl (ex_loadN (cs := [(.int .i64 ((gt x0 a536).fKey)), (.int .i64 ((gt x0 a536).fId))]) rfl rfl Tryz.underlying117 rfl tsz117 rfl ((HM.at_ hc547).sub 0 2 rfl)) ?_
   refine od rfl rfl rfl rfl (does_callk rfl callok59 rfl (laws_toSign.calls (x0 := (gt x0 a536)) h549)) ?_
   rintro _ w551 ⟨rfl, hn⟩
   replace HM : Mem w [] w551 [own kSign 100 v533 a534] := HM.call hn
   refine ox rfl rfl rfl rfl (ex_indexAddr (d := kSign) rfl rfl rfl Tryz.underlying37 tsz100 (HM.own_rd 0 rfl) (idx_lo e550) (idx_hi e550)) ?_
   refine odS rfl rfl rfl (does_setElem (vs := [(.int .i64 t548.fKey), (.int .i64 t548.fId)]) (y := t548) kSign rfl rfl rfl rfl rfl tsz100 rfl rfl (idx_nat e550) (fun _ _ h => ⟨rfl, h⟩) (HM.emp.front 1 rfl rfl)) ?_
   rintro w552 HM
   refine ops_nil ?_
   refine at_block ?_
   refine at_then ?_
   refine run_region rfl ?_
   refine ox rfl rfl rfl rfl (ex_move rfl rfl) ?_
   refine ox rfl rfl rfl rfl (ex_add rfl rfl rfl) ?_
   refine ox rfl rfl rfl rfl (ex_assign rfl rfl) ?_
   refine ops_nil ?_
   exact at_again k543 (ρ1 := [(0, p0), (3, v533), (4, .int .i64 (wrap64 (a536 + 1)))]) (Nat.lt_succ_self _) ⟨_, _, _, ho526, rfl, HM⟩ (Sub.cons rfl (Sub.cons rfl (Sub.cons rfl Sub.nil)))
  ·replace ho526 := cond_f hb545 ho526
   refine run_exit ?_
   refine at_then_exit ?_
   refine at_then_exit ?_
   refine at_block_exit ?_
   exact at_mid (ρ' := [(3, v533)]) ⟨_, _, (Option.some.inj ho526), rfl, HM⟩ (Sub.cons rfl Sub.nil)
 ·rintro _ w553 ⟨v522, a523, rfl, rfl, HM⟩
  refine run_seq ?_
  refine run_region rfl ?_
  refine ox rfl rfl rfl rfl (ex_move rfl rfl) ?_
  refine ox rfl rfl rfl rfl (ex_assign rfl rfl) ?_
  refine ops_nil (at_then ?_)
  refine run_ret ?_
  have hR := Option.some.inj H
  subst hR
  exact at_ret1 rfl rfl ⟨_, rfl, _, rfl, HM⟩
end Go.Proofs.YtpfaihnmonfkhaaGreatDoor.Zk
