/- What functions of the program compute, each as a plain function, and that they do. Conditions: as each theorem states them. -/
import Derived.Test.YtkofpnbacgccnaaZkF10
namespace Go.Proofs.Ytkofpnbacgccnaa.Zk
open Go Go.RowKit Go.IntWalk Go.Proofs
set_option linter.unusedVariables false
set_option linter.unusedSimpArgs false
set_option maxRecDepth 100000
def laws_eqSignS.l0 (x0 : List Sign) (x1 : List Sign) : Nat → Int → Option (Bool ⊕ Unit)
  | 0, _ => none
  | k + 1, a5989 => (bif (decide (a5989 < (x0.length : Int))) then (chk (idxOk a5989 x0.length) (chk (idxOk a5989 x1.length) ((laws_eqSign.f k (gt x0 a5989) (gt x1 a5989)).bind fun t6005 => (bif !t6005 then some (.inl false) else laws_eqSignS.l0 x0 x1 k (wrap64 (a5989 + 1)))))) else some (.inr ()))
theorem laws_eqSignS.l0_z (x0 : List Sign) (x1 : List Sign) (a5989 : Int) : laws_eqSignS.l0 x0 x1 0 a5989 = none := rfl
theorem laws_eqSignS.l0_s (x0 : List Sign) (x1 : List Sign) (k : Nat) (a5989 : Int) : laws_eqSignS.l0 x0 x1 (k + 1) a5989 = (bif (decide (a5989 < (x0.length : Int))) then (chk (idxOk a5989 x0.length) (chk (idxOk a5989 x1.length) ((laws_eqSign.f k (gt x0 a5989) (gt x1 a5989)).bind fun t6005 => (bif !t6005 then some (.inl false) else laws_eqSignS.l0 x0 x1 k (wrap64 (a5989 + 1)))))) else some (.inr ())) := rfl
def laws_eqSignS.f (k : Nat) (x0 : List Sign) (x1 : List Sign) : Option Bool := (bif ((x0.length : Int) != (x1.length : Int)) then some false else ((laws_eqSignS.l0 x0 x1 k 0).bind fun o5979 => thn o5979 (fun r => some r) (fun _ => some true)))
theorem laws_eqSignS.calls {k : Nat} {x0 : List Sign} {x1 : List Sign} {p0 : Value} {p1 : Value} {w : World} (hp0 : RdS kSign w p0 x0) (hp1 : RdS kSign w p1 x1) {r : Bool} (H : laws_eqSignS.f k x0 x1 = some r) :
    Calls Try.prog 101 ([p0, p1] : List Value).toArray w (fun e w_ => ∃ v, e = .returned v ∧ v = (.bool r) ∧ Mem w [] w_ []) := by
  have HM := Mem.start w
  refine calls_run (N := 27) Try.func101 rfl rfl rfl rfl ?_
  unfold laws_eqSignS.f at H
  refine run_seq ?_
  refine run_region rfl ?_
  refine ops_ex rfl (guard_none rfl) rfl rfl (ex_assign rfl rfl) ?_
  refine ops_nil ?_
  refine at_then ?_
  refine run_seq ?_
  refine run_seq ?_
  refine run_region rfl ?_
  refine ops_ex rfl (guard_none rfl) rfl rfl (ex_move rfl rfl) ?_
  refine ops_ex rfl (guard_none rfl) rfl rfl (ex_len (d := kSign) (xs := x0) rfl rfl Try.underlying83 hp0) ?_
  refine ops_ex rfl (guard_none rfl) rfl rfl (ex_move rfl rfl) ?_
  refine ops_ex rfl (guard_none rfl) rfl rfl (ex_len (d := kSign) (xs := x1) rfl rfl Try.underlying83 hp1) ?_
  refine ops_ex rfl (guard_none rfl) rfl rfl (ex_neq rfl rfl rfl) ?_
  refine ops_nil ?_
  refine at_then ?_
  refine run_cond (b := ((x0.length : Int) != (x1.length : Int))) rfl (fun hb5953 => ?_) (fun hb5953 => ?_)
  · replace H := cond_t hb5953 H
    refine run_seq ?_
    refine run_region rfl ?_
    refine ops_ex rfl (guard_none rfl) rfl rfl (ex_assign rfl rfl) ?_
    refine ops_nil ?_
    refine at_then ?_
    refine run_ret ?_
    refine at_then_ret ?_
    have hR := Option.some.inj H
    subst hR
    exact at_ret1 rfl rfl ⟨_, rfl, rfl, HM⟩
  · replace H := cond_f hb5953 H
    refine run_skip ?_
    refine at_then ?_
    obtain ⟨o5979, ho5980, H⟩ := bind_some H
    refine run_mid (fun ρ_ w_ => Sum.inr () = o5979 ∧ ρ_ = [] ∧ Mem w [] w_ []) ?_ ?_
    · skip
      refine run_seq ?_
      refine run_region rfl ?_
      refine ops_ex rfl (guard_none rfl) rfl rfl (ex_assign rfl rfl) ?_
      refine ops_nil ?_
      refine at_then ?_
      refine run_block ?_
      refine run_loop (fun k_ ρ_ w_ => ∃ a5989 : Int, laws_eqSignS.l0 x0 x1 k_ a5989 = some o5979 ∧ ρ_ = [(0, p0), (1, p1), (5, .int .i64 a5989)] ∧ Mem w [] w_ []) k (ρ1 := [(0, p0), (1, p1), (5, .int .i64 0)]) ⟨_, ho5980, rfl, HM⟩ (Sub.cons rfl (Sub.cons rfl (Sub.cons rfl Sub.nil))) ?_
      clear HM ho5980
      rintro k5998 _ w5999 ⟨a5989, ho5980, rfl, HM⟩
      obtain _ | k5998 := k5998
      · exact nomatch ((laws_eqSignS.l0_z x0 x1 a5989).symm.trans ho5980)
      replace ho5980 := (laws_eqSignS.l0_s x0 x1 k5998 a5989).symm.trans ho5980
      refine run_seq ?_
      refine run_seq ?_
      refine run_region rfl ?_
      refine ops_ex rfl (guard_none rfl) rfl rfl (ex_move rfl rfl) ?_
      refine ops_ex rfl (guard_none rfl) rfl rfl (ex_move rfl rfl) ?_
      refine ops_ex rfl (guard_none rfl) rfl rfl (ex_len (d := kSign) (xs := x0) rfl rfl Try.underlying83 hp0) ?_
      refine ops_ex rfl (guard_none rfl) rfl rfl (ex_lss rfl rfl rfl) ?_
      refine ops_nil ?_
      refine at_then ?_
      refine run_cond (b := (decide (a5989 < (x0.length : Int)))) rfl (fun hb6000 => ?_) (fun hb6000 => ?_)
      · replace ho5980 := cond_t hb6000 ho5980
        refine run_skip ?_
        refine at_then ?_
        refine run_seq ?_
        refine run_block ?_
        refine run_seq ?_
        obtain ⟨e6001, ho5980⟩ := chk_some ho5980
        obtain ⟨e6003, ho5980⟩ := chk_some ho5980
        obtain ⟨t6005, h6006, ho5980⟩ := bind_some ho5980
        refine run_draw (fun w_ => Mem w [] w_ []) mixed rfl rfl ?_
        replace HM := HM.grow (fr_drew _)
        have hS := Mem.suf (M := []) HM
        refine drw_take (i := 0) (l' := #[true, false, false, false, false, false, false, false, false, false]) rfl (guard_none rfl) rfl rfl (by kernel_rfl) (fun w_ hS_ => (ex_move rfl rfl)) hS ?_
        refine drw_take (i := 1) (l' := #[true, true, false, false, false, false, false, false, false, false]) rfl (guard_none rfl) rfl rfl (by kernel_rfl) (fun w_ hS_ => (ex_move rfl rfl)) hS ?_
        have hc6002 : CellsAt _ (sb p0) (so p0 + (a5989).toNat * 2) [(.int .i64 ((gt x0 a5989).fKey)), (.int .i64 ((gt x0 a5989).fId))] := rd_plain hp0 e6001
        refine drw_take (i := 2) (l' := #[true, true, true, false, false, false, false, false, false, false]) rfl (guard_none rfl) rfl rfl (by kernel_rfl) (fun w_ hS_ => (ex_indexAddr (d := kSign) rfl rfl rfl Try.underlying83 tsz134 hp0 (idx_lo e6001) (idx_hi e6001))) hS ?_
        refine drw_take (i := 3) (l' := #[true, true, true, true, false, false, false, false, false, false]) rfl (guard_none rfl) rfl rfl (by kernel_rfl) (fun w_ hS_ => (ex_loadN (cs := [(.int .i64 ((gt x0 a5989).fKey)), (.int .i64 ((gt x0 a5989).fId))]) rfl rfl Try.underlying134 rfl tsz134 rfl ((hS_.at_ hc6002).sub 0 2 rfl))) hS ?_
        refine drw_take (i := 4) (l' := #[true, true, true, true, true, false, false, false, false, false]) rfl (guard_none rfl) rfl rfl (by kernel_rfl) (fun w_ hS_ => (ex_move rfl rfl)) hS ?_
        refine drw_take (i := 5) (l' := #[true, true, true, true, true, true, false, false, false, false]) rfl (guard_none rfl) rfl rfl (by kernel_rfl) (fun w_ hS_ => (ex_move rfl rfl)) hS ?_
        have hc6004 : CellsAt _ (sb p1) (so p1 + (a5989).toNat * 2) [(.int .i64 ((gt x1 a5989).fKey)), (.int .i64 ((gt x1 a5989).fId))] := rd_plain hp1 e6003
        refine drw_take (i := 6) (l' := #[true, true, true, true, true, true, true, false, false, false]) rfl (guard_none rfl) rfl rfl (by kernel_rfl) (fun w_ hS_ => (ex_indexAddr (d := kSign) rfl rfl rfl Try.underlying83 tsz134 hp1 (idx_lo e6003) (idx_hi e6003))) hS ?_
        refine drw_take (i := 7) (l' := #[true, true, true, true, true, true, true, true, false, false]) rfl (guard_none rfl) rfl rfl (by kernel_rfl) (fun w_ hS_ => (ex_loadN (cs := [(.int .i64 ((gt x1 a5989).fKey)), (.int .i64 ((gt x1 a5989).fId))]) rfl rfl Try.underlying134 rfl tsz134 rfl ((hS_.at_ hc6004).sub 0 2 rfl))) hS ?_
        refine drw_one (i := 8) (l' := #[true, true, true, true, true, true, true, true, true, false]) rfl (guard_none rfl) rfl rfl (by kernel_rfl) (does_callk rfl callok119 rfl (laws_eqSign.calls (x0 := (gt x0 a5989)) (x1 := (gt x1 a5989)) h6006)) ?_
        rintro _ w6007 ⟨rfl, hn⟩
        replace HM : Mem w [] w6007 [] := HM.call hn
        refine ⟨Mem.suf (M := []) HM, ?_⟩
        have hS := Mem.suf (M := []) HM
        refine drw_take (i := 9) (l' := #[true, true, true, true, true, true, true, true, true, true]) rfl (guard_none rfl) rfl rfl (by kernel_rfl) (fun w_ hS_ => (ex_not rfl rfl)) hS ?_
        refine drw_done (by kernel_rfl) ?_
        refine at_then ?_
        refine run_cond (b := !t6005) rfl (fun hb6008 => ?_) (fun hb6008 => ?_)
        · replace ho5980 := cond_t hb6008 ho5980
          refine run_seq ?_
          refine run_region rfl ?_
          refine ops_ex rfl (guard_none rfl) rfl rfl (ex_assign rfl rfl) ?_
          refine ops_nil ?_
          refine at_then ?_
          refine run_ret ?_
          refine at_block_ret ?_
          refine at_then_ret ?_
          refine at_then_ret ?_
          refine at_block_ret ?_
          refine at_then_ret ?_
          have hR := Option.some.inj ho5980
          subst hR
          have hT := thn_inl H
          have hR := Option.some.inj hT
          subst hR
          exact at_ret1 rfl rfl ⟨_, rfl, rfl, HM⟩
        · replace ho5980 := cond_f hb6008 ho5980
          refine run_skip ?_
          refine at_block ?_
          refine at_then ?_
          refine run_region rfl ?_
          refine ops_ex rfl (guard_none rfl) rfl rfl (ex_move rfl rfl) ?_
          refine ops_ex rfl (guard_none rfl) rfl rfl (ex_add rfl rfl rfl) ?_
          refine ops_ex rfl (guard_none rfl) rfl rfl (ex_assign rfl rfl) ?_
          refine ops_nil ?_
          exact at_again k5998 (ρ1 := [(0, p0), (1, p1), (5, .int .i64 (wrap64 (a5989 + 1)))]) (Nat.lt_succ_self _) ⟨_, ho5980, rfl, HM⟩ (Sub.cons rfl (Sub.cons rfl (Sub.cons rfl Sub.nil)))
      · replace ho5980 := cond_f hb6000 ho5980
        refine run_exit ?_
        refine at_then_exit ?_
        refine at_then_exit ?_
        refine at_block_exit ?_
        exact at_mid (ρ' := []) ⟨(Option.some.inj ho5980), rfl, HM⟩ Sub.nil
    · rintro _ w6009 ⟨rfl, rfl, HM⟩
      replace H := (thn_inr H)
      refine run_seq ?_
      refine run_region rfl ?_
      refine ops_ex rfl (guard_none rfl) rfl rfl (ex_assign rfl rfl) ?_
      refine ops_nil ?_
      refine at_then ?_
      refine run_ret ?_
      have hR := Option.some.inj H
      subst hR
      exact at_ret1 rfl rfl ⟨_, rfl, rfl, HM⟩

def laws_eqLedger.f (k : Nat) (x0 : Ledger) (x1 : Ledger) : Option Bool := ((laws_eqStringS.f k x0.fTexts x1.fTexts).bind fun t6024 => (bif !t6024 then some false else ((laws_eqSignS.f k x0.fSigns x1.fSigns).bind fun t6028 => (bif !t6028 then some false else some true))))
theorem laws_eqLedger.calls {k : Nat} {x0 : Ledger} {x1 : Ledger} {p0_0 : Value} {p0_1 : Value} {p1_0 : Value} {p1_1 : Value} {w : World} (hp0_0 : RdS kStr w p0_0 x0.fTexts) (hp0_1 : RdS kSign w p0_1 x0.fSigns) (hp1_0 : RdS kStr w p1_0 x1.fTexts) (hp1_1 : RdS kSign w p1_1 x1.fSigns) {r : Bool} (H : laws_eqLedger.f k x0 x1 = some r) :
    Calls Try.prog 53 ([.agg #[p0_0, p0_1], .agg #[p1_0, p1_1]] : List Value).toArray w (fun e w_ => ∃ v, e = .returned v ∧ v = (.bool r) ∧ Mem w [] w_ []) := by
  have HM := Mem.start w
  refine calls_run (N := 17) Try.func53 rfl rfl rfl rfl ?_
  unfold laws_eqLedger.f at H
  refine run_seq ?_
  refine run_region rfl ?_
  refine ops_does rfl (guard_none rfl) rfl rfl (does_box (cs := [p0_0, p0_1]) rfl rfl rfl HM) ?_
  rintro _ w6019 ⟨b6013, rfl, HM⟩
  refine ops_does rfl (guard_none rfl) rfl rfl (does_box (cs := [p1_0, p1_1]) rfl rfl rfl HM) ?_
  rintro _ w6020 ⟨b6016, rfl, HM⟩
  refine ops_ex rfl (guard_none rfl) rfl rfl (ex_assign rfl rfl) ?_
  refine ops_nil ?_
  refine at_then ?_
  refine run_seq ?_
  refine run_seq ?_
  obtain ⟨t6024, h6025, H⟩ := bind_some H
  refine run_region rfl ?_
  refine ops_ex rfl (guard_none rfl) rfl rfl (ex_fieldAddr (off' := 0) rfl rfl Try.underlying85 rfl tsz77 rfl) ?_
  refine ops_ex rfl (guard_none rfl) rfl rfl (ex_load1 rfl rfl Try.underlying77 rfl ((HM.box_at 1 rfl) 0 _ rfl)) ?_
  refine ops_ex rfl (guard_none rfl) rfl rfl (ex_fieldAddr (off' := 0) rfl rfl Try.underlying85 rfl tsz77 rfl) ?_
  refine ops_ex rfl (guard_none rfl) rfl rfl (ex_load1 rfl rfl Try.underlying77 rfl ((HM.box_at 0 rfl) 0 _ rfl)) ?_
  refine ops_does rfl (guard_none rfl) rfl rfl (does_callk rfl callok100 rfl (laws_eqStringS.calls (x0 := x0.fTexts) (x1 := x1.fTexts) (HM.rd hp0_0) (HM.rd hp1_0) h6025)) ?_
  rintro _ w6026 ⟨rfl, hn⟩
  replace HM : Mem w [] w6026 [box b6016 85 [p1_0, p1_1], box b6013 85 [p0_0, p0_1]] := HM.call hn
  refine ops_ex rfl (guard_none rfl) rfl rfl (ex_not rfl rfl) ?_
  refine ops_nil ?_
  refine at_then ?_
  refine run_cond (b := !t6024) rfl (fun hb6027 => ?_) (fun hb6027 => ?_)
  · replace H := cond_t hb6027 H
    refine run_seq ?_
    refine run_region rfl ?_
    refine ops_ex rfl (guard_none rfl) rfl rfl (ex_assign rfl rfl) ?_
    refine ops_nil ?_
    refine at_then ?_
    refine run_ret ?_
    refine at_then_ret ?_
    replace HM := (HM.front 0 rfl rfl).drop
    replace HM := (HM.front 0 rfl rfl).drop
    have hR := Option.some.inj H
    subst hR
    exact at_ret1 rfl rfl ⟨_, rfl, rfl, HM⟩
  · replace H := cond_f hb6027 H
    refine run_skip ?_
    refine at_then ?_
    refine run_seq ?_
    refine run_seq ?_
    obtain ⟨t6028, h6029, H⟩ := bind_some H
    refine run_region rfl ?_
    refine ops_ex rfl (guard_none rfl) rfl rfl (ex_fieldAddr (off' := 1) rfl rfl Try.underlying85 rfl tsz83 rfl) ?_
    refine ops_ex rfl (guard_none rfl) rfl rfl (ex_load1 rfl rfl Try.underlying83 rfl ((HM.box_at 1 rfl) 1 _ rfl)) ?_
    refine ops_ex rfl (guard_none rfl) rfl rfl (ex_fieldAddr (off' := 1) rfl rfl Try.underlying85 rfl tsz83 rfl) ?_
    refine ops_ex rfl (guard_none rfl) rfl rfl (ex_load1 rfl rfl Try.underlying83 rfl ((HM.box_at 0 rfl) 1 _ rfl)) ?_
    refine ops_does rfl (guard_none rfl) rfl rfl (does_callk rfl callok101 rfl (laws_eqSignS.calls (x0 := x0.fSigns) (x1 := x1.fSigns) (HM.rd hp0_1) (HM.rd hp1_1) h6029)) ?_
    rintro _ w6030 ⟨rfl, hn⟩
    replace HM : Mem w [] w6030 [box b6016 85 [p1_0, p1_1], box b6013 85 [p0_0, p0_1]] := HM.call hn
    refine ops_ex rfl (guard_none rfl) rfl rfl (ex_not rfl rfl) ?_
    refine ops_nil ?_
    refine at_then ?_
    refine run_cond (b := !t6028) rfl (fun hb6031 => ?_) (fun hb6031 => ?_)
    · replace H := cond_t hb6031 H
      refine run_seq ?_
      refine run_region rfl ?_
      refine ops_ex rfl (guard_none rfl) rfl rfl (ex_assign rfl rfl) ?_
      refine ops_nil ?_
      refine at_then ?_
      refine run_ret ?_
      refine at_then_ret ?_
      replace HM := (HM.front 0 rfl rfl).drop
      replace HM := (HM.front 0 rfl rfl).drop
      have hR := Option.some.inj H
      subst hR
      exact at_ret1 rfl rfl ⟨_, rfl, rfl, HM⟩
    · replace H := cond_f hb6031 H
      refine run_skip ?_
      refine at_then ?_
      refine run_seq ?_
      refine run_region rfl ?_
      refine ops_ex rfl (guard_none rfl) rfl rfl (ex_assign rfl rfl) ?_
      refine ops_nil ?_
      refine at_then ?_
      refine run_ret ?_
      replace HM := (HM.front 0 rfl rfl).drop
      replace HM := (HM.front 0 rfl rfl).drop
      have hR := Option.some.inj H
      subst hR
      exact at_ret1 rfl rfl ⟨_, rfl, rfl, HM⟩

def laws_FnExactLedgerFault.f (k : Nat) (x0 : Ledger) : Option Bool := ((laws_szLedger.f k x0 1048576).bind fun t6039 => (bif (decide (t6039 < 0)) then some true else ((laws_toLedger.f k x0).bind fun t6044 => ((spec_LedgerFault.f k t6044).bind fun t6050 => ((laws_toLedger.f k x0).bind fun t6054 => ((impl_LedgerFault.f k t6054).bind fun t6066 => (bif (t6066 != t6050) then some false else ((laws_toLedger.f k x0).bind fun t6071 => ((laws_eqLedger.f k t6054 t6071).bind fun t6077 => (bif !t6077 then some false else some true))))))))))
theorem laws_FnExactLedgerFault.calls {k : Nat} {x0 : Ledger} {p0_0 : Value} {p0_1 : Value} {w : World} (hp0_0 : RdS kStr w p0_0 x0.fTexts) (hp0_1 : RdS kSign w p0_1 x0.fSigns) {r : Bool} (H : laws_FnExactLedgerFault.f k x0 = some r) :
    Calls Try.prog 13 ([.agg #[p0_0, p0_1]] : List Value).toArray w (fun e w_ => ∃ v, e = .returned v ∧ v = (.bool r) ∧ Mem w [] w_ []) := by
  have HM := Mem.start w
  refine calls_run (N := 27) Try.func13 rfl rfl rfl rfl ?_
  unfold laws_FnExactLedgerFault.f at H
  refine run_seq ?_
  refine run_region rfl ?_
  refine ops_does rfl (guard_none rfl) rfl rfl (does_box (cs := [p0_0, p0_1]) rfl rfl rfl HM) ?_
  rintro _ w6038 ⟨b6035, rfl, HM⟩
  refine ops_ex rfl (guard_none rfl) rfl rfl (ex_assign rfl rfl) ?_
  refine ops_nil ?_
  refine at_then ?_
  refine run_seq ?_
  refine run_region rfl ?_
  refine ops_ex rfl (guard_none rfl) rfl rfl (ex_assign rfl rfl) ?_
  refine ops_nil ?_
  refine at_then ?_
  refine run_seq ?_
  obtain ⟨t6039, h6040, H⟩ := bind_some H
  refine run_region rfl ?_
  refine ops_ex rfl (guard_none rfl) rfl rfl (ex_loadN (cs := [p0_0, p0_1]) rfl rfl Try.underlying80 rfl tsz80 rfl ((HM.box_at 0 rfl).sub 0 2 rfl)) ?_
  refine ops_ex rfl (guard_none rfl) rfl rfl (ex_move rfl rfl) ?_
  refine ops_does rfl (guard_none rfl) rfl rfl (does_callk rfl callok49 rfl (laws_szLedger.calls (x0 := x0) (x1 := 1048576) (HM.rd hp0_0) (HM.rd hp0_1) h6040)) ?_
  rintro _ w6041 ⟨rfl, hn⟩
  replace HM : Mem w [] w6041 [box b6035 80 [p0_0, p0_1]] := HM.call hn
  refine ops_ex rfl (guard_none rfl) rfl rfl (ex_assign rfl rfl) ?_
  refine ops_nil ?_
  refine at_then ?_
  refine run_seq ?_
  refine run_seq ?_
  refine run_region rfl ?_
  refine ops_ex rfl (guard_none rfl) rfl rfl (ex_move rfl rfl) ?_
  refine ops_ex rfl (guard_none rfl) rfl rfl (ex_lss rfl rfl rfl) ?_
  refine ops_nil ?_
  refine at_then ?_
  refine run_cond (b := (decide (t6039 < 0))) rfl (fun hb6043 => ?_) (fun hb6043 => ?_)
  · replace H := cond_t hb6043 H
    refine run_seq ?_
    refine run_region rfl ?_
    refine ops_ex rfl (guard_none rfl) rfl rfl (ex_assign rfl rfl) ?_
    refine ops_nil ?_
    refine at_then ?_
    refine run_ret ?_
    refine at_then_ret ?_
    replace HM := (HM.front 0 rfl rfl).drop
    have hR := Option.some.inj H
    subst hR
    exact at_ret1 rfl rfl ⟨_, rfl, rfl, HM⟩
  · replace H := cond_f hb6043 H
    refine run_skip ?_
    refine at_then ?_
    refine run_seq ?_
    obtain ⟨t6044, h6045, H⟩ := bind_some H
    obtain ⟨t6050, h6051, H⟩ := bind_some H
    refine run_region rfl ?_
    refine ops_ex rfl (guard_none rfl) rfl rfl (ex_loadN (cs := [p0_0, p0_1]) rfl rfl Try.underlying80 rfl tsz80 rfl ((HM.box_at 0 rfl).sub 0 2 rfl)) ?_
    refine ops_does rfl (guard_none rfl) rfl rfl (does_callk rfl callok51 rfl (laws_toLedger.calls (x0 := x0) (HM.rd hp0_0) (HM.rd hp0_1) h6045)) ?_
    rintro _ w6052 ⟨u6046, u6048, rfl, hn⟩
    replace HM : Mem w [] w6052 [own kStr 9 u6046 t6044.fTexts, own kSign 134 u6048 t6044.fSigns, box b6035 80 [p0_0, p0_1]] := HM.call hn
    refine ops_does rfl (guard_none rfl) rfl rfl (does_callk rfl callok50 rfl (spec_LedgerFault.calls (x0 := t6044) (HM.own_rd 0 rfl) (HM.own_rd 1 rfl) h6051)) ?_
    rintro _ w6053 ⟨rfl, hn⟩
    replace HM : Mem w [] w6053 [own kStr 9 u6046 t6044.fTexts, own kSign 134 u6048 t6044.fSigns, box b6035 80 [p0_0, p0_1]] := HM.call hn
    refine ops_ex rfl (guard_none rfl) rfl rfl (ex_assign rfl rfl) ?_
    refine ops_nil ?_
    refine at_then ?_
    refine run_seq ?_
    obtain ⟨t6054, h6055, H⟩ := bind_some H
    refine run_region rfl ?_
    refine ops_ex rfl (guard_none rfl) rfl rfl (ex_loadN (cs := [p0_0, p0_1]) rfl rfl Try.underlying80 rfl tsz80 rfl ((HM.box_at 2 rfl).sub 0 2 rfl)) ?_
    refine ops_does rfl (guard_none rfl) rfl rfl (does_callk rfl callok51 rfl (laws_toLedger.calls (x0 := x0) (HM.rd hp0_0) (HM.rd hp0_1) h6055)) ?_
    rintro _ w6063 ⟨u6056, u6058, rfl, hn⟩
    replace HM : Mem w [] w6063 [own kStr 9 u6056 t6054.fTexts, own kSign 134 u6058 t6054.fSigns, own kStr 9 u6046 t6044.fTexts, own kSign 134 u6048 t6044.fSigns, box b6035 80 [p0_0, p0_1]] := HM.call hn
    refine ops_does rfl (guard_none rfl) rfl rfl (does_alloc (cs := [.slice none 0 0, .slice none 0 0]) rfl tz85 rfl HM) ?_
    rintro _ w6064 ⟨b6060, rfl, HM⟩
    refine ops_doesS rfl (guard_none rfl) rfl (does_store (vs := [u6056, u6058]) (cs' := [u6056, u6058]) rfl rfl rfl rfl tsz85 (Ones.rd (HM.own_rd 1 rfl) (Ones.rd (HM.own_rd 2 rfl) Ones.nil)) rfl rfl HM) ?_
    rintro w6065 HM
    refine ops_nil ?_
    refine at_then ?_
    refine run_seq ?_
    obtain ⟨t6066, h6067, H⟩ := bind_some H
    refine run_region rfl ?_
    refine ops_ex rfl (guard_none rfl) rfl rfl (ex_loadN (cs := [u6056, u6058]) rfl rfl Try.underlying85 rfl tsz85 rfl ((HM.box_at 0 rfl).sub 0 2 rfl)) ?_
    refine ops_does rfl (guard_none rfl) rfl rfl (does_callk rfl callok52 rfl (impl_LedgerFault.calls (x0 := t6054) (HM.own_rd 1 rfl) (HM.own_rd 2 rfl) h6067)) ?_
    rintro _ w6068 ⟨rfl, hn⟩
    replace HM : Mem w [] w6068 [box b6060 85 [u6056, u6058], own kStr 9 u6056 t6054.fTexts, own kSign 134 u6058 t6054.fSigns, own kStr 9 u6046 t6044.fTexts, own kSign 134 u6048 t6044.fSigns, box b6035 80 [p0_0, p0_1]] := HM.call hn
    refine ops_ex rfl (guard_none rfl) rfl rfl (ex_assign rfl rfl) ?_
    refine ops_nil ?_
    refine at_then ?_
    refine run_seq ?_
    refine run_seq ?_
    refine run_region rfl ?_
    refine ops_ex rfl (guard_none rfl) rfl rfl (ex_move rfl rfl) ?_
    refine ops_ex rfl (guard_none rfl) rfl rfl (ex_move rfl rfl) ?_
    refine ops_ex rfl (guard_none rfl) rfl rfl (ex_neq rfl rfl rfl) ?_
    refine ops_nil ?_
    refine at_then ?_
    refine run_cond (b := (t6066 != t6050)) rfl (fun hb6070 => ?_) (fun hb6070 => ?_)
    · replace H := cond_t hb6070 H
      refine run_seq ?_
      refine run_region rfl ?_
      refine ops_ex rfl (guard_none rfl) rfl rfl (ex_assign rfl rfl) ?_
      refine ops_nil ?_
      refine at_then ?_
      refine run_ret ?_
      refine at_then_ret ?_
      replace HM := (HM.front 0 rfl rfl).drop
      replace HM := (HM.front 0 rfl rfl).drop
      replace HM := (HM.front 0 rfl rfl).drop
      replace HM := (HM.front 0 rfl rfl).drop
      replace HM := (HM.front 0 rfl rfl).drop
      replace HM := (HM.front 0 rfl rfl).drop
      have hR := Option.some.inj H
      subst hR
      exact at_ret1 rfl rfl ⟨_, rfl, rfl, HM⟩
    · replace H := cond_f hb6070 H
      refine run_skip ?_
      refine at_then ?_
      refine run_seq ?_
      refine run_seq ?_
      obtain ⟨t6071, h6072, H⟩ := bind_some H
      obtain ⟨t6077, h6078, H⟩ := bind_some H
      refine run_draw (fun w_ => Mem w [] w_ [box b6060 85 [u6056, u6058], own kStr 9 u6056 t6054.fTexts, own kSign 134 u6058 t6054.fSigns, own kStr 9 u6046 t6044.fTexts, own kSign 134 u6048 t6044.fSigns, box b6035 80 [p0_0, p0_1]]) mixed rfl rfl ?_
      replace HM := HM.grow (fr_drew _)
      have hS := Mem.suf (M := []) HM
      refine drw_take (i := 0) (l' := #[true, false, false, false, false]) rfl (guard_none rfl) rfl rfl (by kernel_rfl) (fun w_ hS_ => (ex_loadN (cs := [u6056, u6058]) rfl rfl Try.underlying85 rfl tsz85 rfl ((hS_.box_at 0 rfl).sub 0 2 rfl))) hS ?_
      refine drw_take (i := 1) (l' := #[true, true, false, false, false]) rfl (guard_none rfl) rfl rfl (by kernel_rfl) (fun w_ hS_ => (ex_loadN (cs := [p0_0, p0_1]) rfl rfl Try.underlying80 rfl tsz80 rfl ((hS_.box_at 5 rfl).sub 0 2 rfl))) hS ?_
      refine drw_one (i := 2) (l' := #[true, true, true, false, false]) rfl (guard_none rfl) rfl rfl (by kernel_rfl) (does_callk rfl callok51 rfl (laws_toLedger.calls (x0 := x0) (HM.rd hp0_0) (HM.rd hp0_1) h6072)) ?_
      rintro _ w6079 ⟨u6073, u6075, rfl, hn⟩
      replace HM : Mem w [] w6079 [own kStr 9 u6073 t6071.fTexts, own kSign 134 u6075 t6071.fSigns, box b6060 85 [u6056, u6058], own kStr 9 u6056 t6054.fTexts, own kSign 134 u6058 t6054.fSigns, own kStr 9 u6046 t6044.fTexts, own kSign 134 u6048 t6044.fSigns, box b6035 80 [p0_0, p0_1]] := HM.call hn
      refine ⟨Mem.suf (M := [own kStr 9 u6073 t6071.fTexts, own kSign 134 u6075 t6071.fSigns]) HM, ?_⟩
      have hS := Mem.suf (M := [own kStr 9 u6073 t6071.fTexts, own kSign 134 u6075 t6071.fSigns]) HM
      refine drw_one (i := 3) (l' := #[true, true, true, true, false]) rfl (guard_none rfl) rfl rfl (by kernel_rfl) (does_callk rfl callok53 rfl (laws_eqLedger.calls (x0 := t6054) (x1 := t6071) (HM.own_rd 3 rfl) (HM.own_rd 4 rfl) (HM.own_rd 0 rfl) (HM.own_rd 1 rfl) h6078)) ?_
      rintro _ w6080 ⟨rfl, hn⟩
      replace HM : Mem w [] w6080 [own kStr 9 u6073 t6071.fTexts, own kSign 134 u6075 t6071.fSigns, box b6060 85 [u6056, u6058], own kStr 9 u6056 t6054.fTexts, own kSign 134 u6058 t6054.fSigns, own kStr 9 u6046 t6044.fTexts, own kSign 134 u6048 t6044.fSigns, box b6035 80 [p0_0, p0_1]] := HM.call hn
      refine ⟨Mem.suf (M := [own kStr 9 u6073 t6071.fTexts, own kSign 134 u6075 t6071.fSigns]) HM, ?_⟩
      have hS := Mem.suf (M := [own kStr 9 u6073 t6071.fTexts, own kSign 134 u6075 t6071.fSigns]) HM
      refine drw_take (i := 4) (l' := #[true, true, true, true, true]) rfl (guard_none rfl) rfl rfl (by kernel_rfl) (fun w_ hS_ => (ex_not rfl rfl)) hS ?_
      refine drw_done (by kernel_rfl) ?_
      refine at_then ?_
      refine run_cond (b := !t6077) rfl (fun hb6081 => ?_) (fun hb6081 => ?_)
      · replace H := cond_t hb6081 H
        refine run_seq ?_
        refine run_region rfl ?_
        refine ops_ex rfl (guard_none rfl) rfl rfl (ex_assign rfl rfl) ?_
        refine ops_nil ?_
        refine at_then ?_
        refine run_ret ?_
        refine at_then_ret ?_
        replace HM := (HM.front 0 rfl rfl).drop
        replace HM := (HM.front 0 rfl rfl).drop
        replace HM := (HM.front 0 rfl rfl).drop
        replace HM := (HM.front 0 rfl rfl).drop
        replace HM := (HM.front 0 rfl rfl).drop
        replace HM := (HM.front 0 rfl rfl).drop
        replace HM := (HM.front 0 rfl rfl).drop
        replace HM := (HM.front 0 rfl rfl).drop
        have hR := Option.some.inj H
        subst hR
        exact at_ret1 rfl rfl ⟨_, rfl, rfl, HM⟩
      · replace H := cond_f hb6081 H
        refine run_skip ?_
        refine at_then ?_
        refine run_seq ?_
        refine run_region rfl ?_
        refine ops_ex rfl (guard_none rfl) rfl rfl (ex_assign rfl rfl) ?_
        refine ops_nil ?_
        refine at_then ?_
        refine run_ret ?_
        replace HM := (HM.front 0 rfl rfl).drop
        replace HM := (HM.front 0 rfl rfl).drop
        replace HM := (HM.front 0 rfl rfl).drop
        replace HM := (HM.front 0 rfl rfl).drop
        replace HM := (HM.front 0 rfl rfl).drop
        replace HM := (HM.front 0 rfl rfl).drop
        replace HM := (HM.front 0 rfl rfl).drop
        replace HM := (HM.front 0 rfl rfl).drop
        have hR := Option.some.inj H
        subst hR
        exact at_ret1 rfl rfl ⟨_, rfl, rfl, HM⟩

def spec_l1Has.f (k : Nat) (x0 : Ledger) (x1 : Int) (x2 : Int) : Option Bool := ((spec_l1Signed.f k x0.fSigns (⟨x1, x2⟩ : Sign)).bind fun t6102 => some t6102)
theorem spec_l1Has.calls {k : Nat} {x0 : Ledger} {x1 : Int} {x2 : Int} {b0 f0 : Nat} {p0_0 : Value} {p0_1 : Value} {w : World} (hc0 : CellsAt w b0 f0 [p0_0, p0_1]) (hp0_0 : RdS kStr w p0_0 x0.fTexts) (hp0_1 : RdS kSign w p0_1 x0.fSigns) {r : Bool} (H : spec_l1Has.f k x0 x1 x2 = some r) :
    Calls Try.prog 102 ([.pointer (some ⟨b0, f0, none⟩), .int .i64 x1, .int .i64 x2] : List Value).toArray w (fun e w_ => ∃ v, e = .returned v ∧ v = (.bool r) ∧ Mem w [] w_ []) := by
  have HM := Mem.start w
  refine calls_run (N := 15) Try.func102 rfl rfl rfl rfl ?_
  unfold spec_l1Has.f at H
  refine run_seq ?_
  refine run_region rfl ?_
  refine ops_ex rfl (guard_none rfl) rfl rfl (ex_assign rfl rfl) ?_
  refine ops_nil ?_
  refine at_then ?_
  refine run_seq ?_
  obtain ⟨t6102, h6103, H⟩ := bind_some H
  refine run_region rfl ?_
  refine ops_ex rfl (guard_none rfl) rfl rfl (ex_move rfl rfl) ?_
  refine ops_ex rfl (guard_none rfl) rfl rfl (ex_nilCheck rfl rfl) ?_
  refine ops_ex rfl (guard_none rfl) rfl rfl (ex_fieldAddr (off' := f0 + 1) rfl rfl Try.underlying85 rfl tsz83 rfl) ?_
  refine ops_ex rfl (guard_none rfl) rfl rfl (ex_load1 rfl rfl Try.underlying83 rfl ((HM.at_ hc0) 1 _ rfl)) ?_
  refine ops_ex rfl (guard_none rfl) rfl rfl (ex_move rfl rfl) ?_
  refine ops_ex rfl (guard_none rfl) rfl rfl (ex_move rfl rfl) ?_
  refine ops_ex rfl (guard_none rfl) rfl rfl (ex_build (cells := #[(.int .i64 x1), (.int .i64 x2)]) rfl rfl (by kernel_rfl)) ?_
  refine ops_does rfl (guard_none rfl) rfl rfl (does_callk rfl callok115 rfl (spec_l1Signed.calls (x0 := x0.fSigns) (x1 := (⟨x1, x2⟩ : Sign)) (HM.rd hp0_1) h6103)) ?_
  rintro _ w6104 ⟨rfl, hn⟩
  replace HM : Mem w [] w6104 [] := HM.call hn
  refine ops_ex rfl (guard_none rfl) rfl rfl (ex_assign rfl rfl) ?_
  refine ops_nil ?_
  refine at_then ?_
  refine run_ret ?_
  have hR := Option.some.inj H
  subst hR
  exact at_ret1 rfl rfl ⟨_, rfl, rfl, HM⟩

def spec_HasSign.f (k : Nat) (x0 : Ledger) (x1 : Int) (x2 : Int) : Option Bool := ((spec_l1Fault.f k x0).bind fun t6111 => ((bif (t6111 == 0) then spec_l1Has.f k x0 x1 x2 else some default).bind fun t6113 => some ((t6111 == 0) && t6113)))
theorem spec_HasSign.calls {k : Nat} {x0 : Ledger} {x1 : Int} {x2 : Int} {p0_0 : Value} {p0_1 : Value} {w : World} (hp0_0 : RdS kStr w p0_0 x0.fTexts) (hp0_1 : RdS kSign w p0_1 x0.fSigns) {r : Bool} (H : spec_HasSign.f k x0 x1 x2 = some r) :
    Calls Try.prog 54 ([.agg #[p0_0, p0_1], .int .i64 x1, .int .i64 x2] : List Value).toArray w (fun e w_ => ∃ v, e = .returned v ∧ v = (.bool r) ∧ Mem w [] w_ []) := by
  have HM := Mem.start w
  refine calls_run (N := 14) Try.func54 rfl rfl rfl rfl ?_
  unfold spec_HasSign.f at H
  refine run_seq ?_
  refine run_region rfl ?_
  refine ops_does rfl (guard_none rfl) rfl rfl (does_box (cs := [p0_0, p0_1]) rfl rfl rfl HM) ?_
  rintro _ w6110 ⟨b6107, rfl, HM⟩
  refine ops_ex rfl (guard_none rfl) rfl rfl (ex_assign rfl rfl) ?_
  refine ops_nil ?_
  refine at_then ?_
  refine run_seq ?_
  obtain ⟨t6111, h6112, H⟩ := bind_some H
  obtain ⟨t6113, h6114, H⟩ := bind_some H
  refine run_meet (fun ρ_ w_ => ρ_ = [(6, .bool ((t6111 == 0) && t6113))] ∧ Mem w [] w_ []) ?_ ?_
  · skip
    refine run_region rfl ?_
    refine ops_does rfl (guard_none rfl) rfl rfl (does_callk rfl callok94 rfl (spec_l1Fault.calls (x0 := x0) (HM.box_at 0 rfl) (HM.rd hp0_0) (HM.rd hp0_1) h6112)) ?_
    rintro _ w6115 ⟨rfl, hn⟩
    replace HM : Mem w [] w6115 [box b6107 85 [p0_0, p0_1]] := HM.call hn
    refine ops_ex rfl (guard_none rfl) rfl rfl (ex_eql rfl rfl rfl) ?_
    refine ops_ex rfl (guard_none rfl) rfl rfl (ex_move rfl rfl) ?_
    refine bool_cases (t6111 == 0) (fun hg6116 => ?_) (fun hg6116 => ?_)
    · skip
      refine ops_ex rfl (guard_on rfl rfl rfl hg6116) rfl rfl (ex_move rfl rfl) ?_
      refine ops_ex rfl (guard_on rfl rfl rfl hg6116) rfl rfl (ex_move rfl rfl) ?_
      refine ops_does rfl (guard_on rfl rfl rfl hg6116) rfl rfl (does_callk rfl callok102 rfl (spec_l1Has.calls (x0 := x0) (x1 := x1) (x2 := x2) (HM.box_at 0 rfl) (HM.rd hp0_0) (HM.rd hp0_1) (cond_t hg6116 h6114))) ?_
      rintro _ w6117 ⟨rfl, hn⟩
      replace HM : Mem w [] w6117 [box b6107 85 [p0_0, p0_1]] := HM.call hn
      refine ops_ex (v := .bool ((t6111 == 0) && t6113)) rfl (guard_none rfl) rfl rfl (ex_pand_t rfl rfl hg6116 rfl) ?_
      refine ops_ex rfl (guard_none rfl) rfl rfl (ex_assign rfl rfl) ?_
      refine ops_nil ?_
      replace HM := (HM.front 0 rfl rfl).drop
      exact at_meet [(6, .bool ((t6111 == 0) && t6113))] ⟨rfl, HM⟩ (Sub.cons rfl Sub.nil)
    · skip
      refine ops_off rfl (guard_off rfl rfl rfl hg6116) rfl rfl ?_
      refine ops_off rfl (guard_off rfl rfl rfl hg6116) rfl rfl ?_
      refine ops_off rfl (guard_off rfl rfl rfl hg6116) rfl rfl ?_
      have hg6118 : ((t6111 == 0) && t6113) = false := by simp only [hg6116, Bool.and_true, Bool.true_and, Bool.and_false, Bool.false_and, Bool.or_true, Bool.true_or, Bool.or_false, Bool.false_or, Bool.not_true, Bool.not_false, Bool.not_not]
      refine ops_ex (v := .bool ((t6111 == 0) && t6113)) rfl (guard_none rfl) rfl rfl (ex_pand_f rfl rfl hg6116) ?_
      refine ops_ex rfl (guard_none rfl) rfl rfl (ex_assign rfl rfl) ?_
      refine ops_nil ?_
      replace HM := (HM.front 0 rfl rfl).drop
      exact at_meet [(6, .bool ((t6111 == 0) && t6113))] ⟨rfl, HM⟩ (Sub.cons rfl Sub.nil)
  · rintro _ w6119 ⟨rfl, HM⟩
    refine at_then ?_
    refine run_ret ?_
    have hR := Option.some.inj H
    subst hR
    exact at_ret1 rfl rfl ⟨_, rfl, rfl, HM⟩

def impl_Ledger_hasSign.f (k : Nat) (x0 : Ledger) (x1 : Int) (x2 : Int) : Option Bool := ((slices_Contains_impl_Sign.f k x0.fSigns (⟨x1, x2⟩ : Sign)).bind fun t6145 => some t6145)
theorem impl_Ledger_hasSign.calls {k : Nat} {x0 : Ledger} {x1 : Int} {x2 : Int} {p0_0 : Value} {p0_1 : Value} {w : World} (hp0_0 : RdS kStr w p0_0 x0.fTexts) (hp0_1 : RdS kSign w p0_1 x0.fSigns) {r : Bool} (H : impl_Ledger_hasSign.f k x0 x1 x2 = some r) :
    Calls Try.prog 103 ([.agg #[p0_0, p0_1], .int .i64 x1, .int .i64 x2] : List Value).toArray w (fun e w_ => ∃ v, e = .returned v ∧ v = (.bool r) ∧ Mem w [] w_ []) := by
  have HM := Mem.start w
  refine calls_run (N := 13) Try.func103 rfl rfl rfl rfl ?_
  unfold impl_Ledger_hasSign.f at H
  refine run_seq ?_
  refine run_region rfl ?_
  refine ops_does rfl (guard_none rfl) rfl rfl (does_box (cs := [p0_0, p0_1]) rfl rfl rfl HM) ?_
  rintro _ w6144 ⟨b6141, rfl, HM⟩
  refine ops_ex rfl (guard_none rfl) rfl rfl (ex_assign rfl rfl) ?_
  refine ops_nil ?_
  refine at_then ?_
  refine run_seq ?_
  obtain ⟨t6145, h6146, H⟩ := bind_some H
  refine run_region rfl ?_
  refine ops_ex rfl (guard_none rfl) rfl rfl (ex_fieldAddr (off' := 1) rfl rfl Try.underlying85 rfl tsz83 rfl) ?_
  refine ops_ex rfl (guard_none rfl) rfl rfl (ex_load1 rfl rfl Try.underlying83 rfl ((HM.box_at 0 rfl) 1 _ rfl)) ?_
  refine ops_ex rfl (guard_none rfl) rfl rfl (ex_move rfl rfl) ?_
  refine ops_ex rfl (guard_none rfl) rfl rfl (ex_move rfl rfl) ?_
  refine ops_ex rfl (guard_none rfl) rfl rfl (ex_build (cells := #[(.int .i64 x1), (.int .i64 x2)]) rfl rfl (by kernel_rfl)) ?_
  refine ops_does rfl (guard_none rfl) rfl rfl (does_callk rfl callok99 rfl (slices_Contains_impl_Sign.calls (x0 := x0.fSigns) (x1 := (⟨x1, x2⟩ : Sign)) (HM.rd hp0_1) h6146)) ?_
  rintro _ w6147 ⟨rfl, hn⟩
  replace HM : Mem w [] w6147 [box b6141 85 [p0_0, p0_1]] := HM.call hn
  refine ops_ex rfl (guard_none rfl) rfl rfl (ex_assign rfl rfl) ?_
  refine ops_nil ?_
  refine at_then ?_
  refine run_ret ?_
  replace HM := (HM.front 0 rfl rfl).drop
  have hR := Option.some.inj H
  subst hR
  exact at_ret1 rfl rfl ⟨_, rfl, rfl, HM⟩

def impl_HasSign.f (k : Nat) (x0 : Ledger) (x1 : Int) (x2 : Int) : Option Bool := ((impl_LedgerFault.f k x0).bind fun t6154 => ((bif (t6154 == 0) then impl_Ledger_hasSign.f k x0 x1 x2 else some default).bind fun t6156 => some ((t6154 == 0) && t6156)))
theorem impl_HasSign.calls {k : Nat} {x0 : Ledger} {x1 : Int} {x2 : Int} {p0_0 : Value} {p0_1 : Value} {w : World} (hp0_0 : RdS kStr w p0_0 x0.fTexts) (hp0_1 : RdS kSign w p0_1 x0.fSigns) {r : Bool} (H : impl_HasSign.f k x0 x1 x2 = some r) :
    Calls Try.prog 55 ([.agg #[p0_0, p0_1], .int .i64 x1, .int .i64 x2] : List Value).toArray w (fun e w_ => ∃ v, e = .returned v ∧ v = (.bool r) ∧ Mem w [] w_ []) := by
  have HM := Mem.start w
  refine calls_run (N := 16) Try.func55 rfl rfl rfl rfl ?_
  unfold impl_HasSign.f at H
  refine run_seq ?_
  refine run_region rfl ?_
  refine ops_does rfl (guard_none rfl) rfl rfl (does_box (cs := [p0_0, p0_1]) rfl rfl rfl HM) ?_
  rintro _ w6153 ⟨b6150, rfl, HM⟩
  refine ops_ex rfl (guard_none rfl) rfl rfl (ex_assign rfl rfl) ?_
  refine ops_nil ?_
  refine at_then ?_
  refine run_seq ?_
  obtain ⟨t6154, h6155, H⟩ := bind_some H
  obtain ⟨t6156, h6157, H⟩ := bind_some H
  refine run_meet (fun ρ_ w_ => ρ_ = [(6, .bool ((t6154 == 0) && t6156))] ∧ Mem w [] w_ []) ?_ ?_
  · skip
    refine run_region rfl ?_
    refine ops_ex rfl (guard_none rfl) rfl rfl (ex_loadN (cs := [p0_0, p0_1]) rfl rfl Try.underlying85 rfl tsz85 rfl ((HM.box_at 0 rfl).sub 0 2 rfl)) ?_
    refine ops_does rfl (guard_none rfl) rfl rfl (does_callk rfl callok52 rfl (impl_LedgerFault.calls (x0 := x0) (HM.rd hp0_0) (HM.rd hp0_1) h6155)) ?_
    rintro _ w6158 ⟨rfl, hn⟩
    replace HM : Mem w [] w6158 [box b6150 85 [p0_0, p0_1]] := HM.call hn
    refine ops_ex rfl (guard_none rfl) rfl rfl (ex_eql rfl rfl rfl) ?_
    refine ops_ex rfl (guard_none rfl) rfl rfl (ex_move rfl rfl) ?_
    refine bool_cases (t6154 == 0) (fun hg6159 => ?_) (fun hg6159 => ?_)
    · skip
      refine ops_ex rfl (guard_on rfl rfl rfl hg6159) rfl rfl (ex_loadN (cs := [p0_0, p0_1]) rfl rfl Try.underlying85 rfl tsz85 rfl ((HM.box_at 0 rfl).sub 0 2 rfl)) ?_
      refine ops_ex rfl (guard_on rfl rfl rfl hg6159) rfl rfl (ex_move rfl rfl) ?_
      refine ops_ex rfl (guard_on rfl rfl rfl hg6159) rfl rfl (ex_move rfl rfl) ?_
      refine ops_does rfl (guard_on rfl rfl rfl hg6159) rfl rfl (does_callk rfl callok103 rfl (impl_Ledger_hasSign.calls (x0 := x0) (x1 := x1) (x2 := x2) (HM.rd hp0_0) (HM.rd hp0_1) (cond_t hg6159 h6157))) ?_
      rintro _ w6160 ⟨rfl, hn⟩
      replace HM : Mem w [] w6160 [box b6150 85 [p0_0, p0_1]] := HM.call hn
      refine ops_ex (v := .bool ((t6154 == 0) && t6156)) rfl (guard_none rfl) rfl rfl (ex_pand_t rfl rfl hg6159 rfl) ?_
      refine ops_ex rfl (guard_none rfl) rfl rfl (ex_assign rfl rfl) ?_
      refine ops_nil ?_
      replace HM := (HM.front 0 rfl rfl).drop
      exact at_meet [(6, .bool ((t6154 == 0) && t6156))] ⟨rfl, HM⟩ (Sub.cons rfl Sub.nil)
    · skip
      refine ops_off rfl (guard_off rfl rfl rfl hg6159) rfl rfl ?_
      refine ops_off rfl (guard_off rfl rfl rfl hg6159) rfl rfl ?_
      refine ops_off rfl (guard_off rfl rfl rfl hg6159) rfl rfl ?_
      refine ops_off rfl (guard_off rfl rfl rfl hg6159) rfl rfl ?_
      have hg6161 : ((t6154 == 0) && t6156) = false := by simp only [hg6159, Bool.and_true, Bool.true_and, Bool.and_false, Bool.false_and, Bool.or_true, Bool.true_or, Bool.or_false, Bool.false_or, Bool.not_true, Bool.not_false, Bool.not_not]
      refine ops_ex (v := .bool ((t6154 == 0) && t6156)) rfl (guard_none rfl) rfl rfl (ex_pand_f rfl rfl hg6159) ?_
      refine ops_ex rfl (guard_none rfl) rfl rfl (ex_assign rfl rfl) ?_
      refine ops_nil ?_
      replace HM := (HM.front 0 rfl rfl).drop
      exact at_meet [(6, .bool ((t6154 == 0) && t6156))] ⟨rfl, HM⟩ (Sub.cons rfl Sub.nil)
  · rintro _ w6162 ⟨rfl, HM⟩
    refine at_then ?_
    refine run_ret ?_
    have hR := Option.some.inj H
    subst hR
    exact at_ret1 rfl rfl ⟨_, rfl, rfl, HM⟩

def laws_FnExactHasSign.f (k : Nat) (x0 : Ledger) (x1 : Int) (x2 : Int) : Option Bool := ((laws_szLedger.f k x0 1048576).bind fun t6180 => (bif (decide (t6180 < 0)) then some true else ((laws_toLedger.f k x0).bind fun t6185 => ((spec_HasSign.f k t6185 x1 x2).bind fun t6191 => ((laws_toLedger.f k x0).bind fun t6195 => ((impl_HasSign.f k t6195 x1 x2).bind fun t6207 => (bif (t6207 != t6191) then some false else ((laws_toLedger.f k x0).bind fun t6212 => ((laws_eqLedger.f k t6195 t6212).bind fun t6218 => (bif !t6218 then some false else some true))))))))))
theorem laws_FnExactHasSign.calls {k : Nat} {x0 : Ledger} {x1 : Int} {x2 : Int} {p0_0 : Value} {p0_1 : Value} {w : World} (hp0_0 : RdS kStr w p0_0 x0.fTexts) (hp0_1 : RdS kSign w p0_1 x0.fSigns) {r : Bool} (H : laws_FnExactHasSign.f k x0 x1 x2 = some r) :
    Calls Try.prog 14 ([.agg #[p0_0, p0_1], .int .i64 x1, .int .i64 x2] : List Value).toArray w (fun e w_ => ∃ v, e = .returned v ∧ v = (.bool r) ∧ Mem w [] w_ []) := by
  have HM := Mem.start w
  refine calls_run (N := 35) Try.func14 rfl rfl rfl rfl ?_
  unfold laws_FnExactHasSign.f at H
  refine run_seq ?_
  refine run_region rfl ?_
  refine ops_does rfl (guard_none rfl) rfl rfl (does_box (cs := [p0_0, p0_1]) rfl rfl rfl HM) ?_
  rintro _ w6179 ⟨b6176, rfl, HM⟩
  refine ops_ex rfl (guard_none rfl) rfl rfl (ex_assign rfl rfl) ?_
  refine ops_nil ?_
  refine at_then ?_
  refine run_seq ?_
  refine run_region rfl ?_
  refine ops_ex rfl (guard_none rfl) rfl rfl (ex_assign rfl rfl) ?_
  refine ops_nil ?_
  refine at_then ?_
  refine run_seq ?_
  obtain ⟨t6180, h6181, H⟩ := bind_some H
  refine run_region rfl ?_
  refine ops_ex rfl (guard_none rfl) rfl rfl (ex_loadN (cs := [p0_0, p0_1]) rfl rfl Try.underlying80 rfl tsz80 rfl ((HM.box_at 0 rfl).sub 0 2 rfl)) ?_
  refine ops_ex rfl (guard_none rfl) rfl rfl (ex_move rfl rfl) ?_
  refine ops_does rfl (guard_none rfl) rfl rfl (does_callk rfl callok49 rfl (laws_szLedger.calls (x0 := x0) (x1 := 1048576) (HM.rd hp0_0) (HM.rd hp0_1) h6181)) ?_
  rintro _ w6182 ⟨rfl, hn⟩
  replace HM : Mem w [] w6182 [box b6176 80 [p0_0, p0_1]] := HM.call hn
  refine ops_ex rfl (guard_none rfl) rfl rfl (ex_assign rfl rfl) ?_
  refine ops_nil ?_
  refine at_then ?_
  refine run_seq ?_
  refine run_seq ?_
  refine run_region rfl ?_
  refine ops_ex rfl (guard_none rfl) rfl rfl (ex_move rfl rfl) ?_
  refine ops_ex rfl (guard_none rfl) rfl rfl (ex_lss rfl rfl rfl) ?_
  refine ops_nil ?_
  refine at_then ?_
  refine run_cond (b := (decide (t6180 < 0))) rfl (fun hb6184 => ?_) (fun hb6184 => ?_)
  · replace H := cond_t hb6184 H
    refine run_seq ?_
    refine run_region rfl ?_
    refine ops_ex rfl (guard_none rfl) rfl rfl (ex_assign rfl rfl) ?_
    refine ops_nil ?_
    refine at_then ?_
    refine run_ret ?_
    refine at_then_ret ?_
    replace HM := (HM.front 0 rfl rfl).drop
    have hR := Option.some.inj H
    subst hR
    exact at_ret1 rfl rfl ⟨_, rfl, rfl, HM⟩
  · replace H := cond_f hb6184 H
    refine run_skip ?_
    refine at_then ?_
    refine run_seq ?_
    obtain ⟨t6185, h6186, H⟩ := bind_some H
    obtain ⟨t6191, h6192, H⟩ := bind_some H
    refine run_region rfl ?_
    refine ops_ex rfl (guard_none rfl) rfl rfl (ex_loadN (cs := [p0_0, p0_1]) rfl rfl Try.underlying80 rfl tsz80 rfl ((HM.box_at 0 rfl).sub 0 2 rfl)) ?_
    refine ops_does rfl (guard_none rfl) rfl rfl (does_callk rfl callok51 rfl (laws_toLedger.calls (x0 := x0) (HM.rd hp0_0) (HM.rd hp0_1) h6186)) ?_
    rintro _ w6193 ⟨u6187, u6189, rfl, hn⟩
    replace HM : Mem w [] w6193 [own kStr 9 u6187 t6185.fTexts, own kSign 134 u6189 t6185.fSigns, box b6176 80 [p0_0, p0_1]] := HM.call hn
    refine ops_ex rfl (guard_none rfl) rfl rfl (ex_move rfl rfl) ?_
    refine ops_ex rfl (guard_none rfl) rfl rfl (ex_move rfl rfl) ?_
    refine ops_does rfl (guard_none rfl) rfl rfl (does_callk rfl callok54 rfl (spec_HasSign.calls (x0 := t6185) (x1 := x1) (x2 := x2) (HM.own_rd 0 rfl) (HM.own_rd 1 rfl) h6192)) ?_
    rintro _ w6194 ⟨rfl, hn⟩
    replace HM : Mem w [] w6194 [own kStr 9 u6187 t6185.fTexts, own kSign 134 u6189 t6185.fSigns, box b6176 80 [p0_0, p0_1]] := HM.call hn
    refine ops_ex rfl (guard_none rfl) rfl rfl (ex_assign rfl rfl) ?_
    refine ops_nil ?_
    refine at_then ?_
    refine run_seq ?_
    obtain ⟨t6195, h6196, H⟩ := bind_some H
    refine run_region rfl ?_
    refine ops_ex rfl (guard_none rfl) rfl rfl (ex_loadN (cs := [p0_0, p0_1]) rfl rfl Try.underlying80 rfl tsz80 rfl ((HM.box_at 2 rfl).sub 0 2 rfl)) ?_
    refine ops_does rfl (guard_none rfl) rfl rfl (does_callk rfl callok51 rfl (laws_toLedger.calls (x0 := x0) (HM.rd hp0_0) (HM.rd hp0_1) h6196)) ?_
    rintro _ w6204 ⟨u6197, u6199, rfl, hn⟩
    replace HM : Mem w [] w6204 [own kStr 9 u6197 t6195.fTexts, own kSign 134 u6199 t6195.fSigns, own kStr 9 u6187 t6185.fTexts, own kSign 134 u6189 t6185.fSigns, box b6176 80 [p0_0, p0_1]] := HM.call hn
    refine ops_does rfl (guard_none rfl) rfl rfl (does_alloc (cs := [.slice none 0 0, .slice none 0 0]) rfl tz85 rfl HM) ?_
    rintro _ w6205 ⟨b6201, rfl, HM⟩
    refine ops_doesS rfl (guard_none rfl) rfl (does_store (vs := [u6197, u6199]) (cs' := [u6197, u6199]) rfl rfl rfl rfl tsz85 (Ones.rd (HM.own_rd 1 rfl) (Ones.rd (HM.own_rd 2 rfl) Ones.nil)) rfl rfl HM) ?_
    rintro w6206 HM
    refine ops_nil ?_
    refine at_then ?_
    refine run_seq ?_
    obtain ⟨t6207, h6208, H⟩ := bind_some H
    refine run_region rfl ?_
    refine ops_ex rfl (guard_none rfl) rfl rfl (ex_loadN (cs := [u6197, u6199]) rfl rfl Try.underlying85 rfl tsz85 rfl ((HM.box_at 0 rfl).sub 0 2 rfl)) ?_
    refine ops_ex rfl (guard_none rfl) rfl rfl (ex_move rfl rfl) ?_
    refine ops_ex rfl (guard_none rfl) rfl rfl (ex_move rfl rfl) ?_
    refine ops_does rfl (guard_none rfl) rfl rfl (does_callk rfl callok55 rfl (impl_HasSign.calls (x0 := t6195) (x1 := x1) (x2 := x2) (HM.own_rd 1 rfl) (HM.own_rd 2 rfl) h6208)) ?_
    rintro _ w6209 ⟨rfl, hn⟩
    replace HM : Mem w [] w6209 [box b6201 85 [u6197, u6199], own kStr 9 u6197 t6195.fTexts, own kSign 134 u6199 t6195.fSigns, own kStr 9 u6187 t6185.fTexts, own kSign 134 u6189 t6185.fSigns, box b6176 80 [p0_0, p0_1]] := HM.call hn
    refine ops_ex rfl (guard_none rfl) rfl rfl (ex_assign rfl rfl) ?_
    refine ops_nil ?_
    refine at_then ?_
    refine run_seq ?_
    refine run_seq ?_
    refine run_region rfl ?_
    refine ops_ex rfl (guard_none rfl) rfl rfl (ex_move rfl rfl) ?_
    refine ops_ex rfl (guard_none rfl) rfl rfl (ex_move rfl rfl) ?_
    refine ops_ex rfl (guard_none rfl) rfl rfl (ex_bneq rfl rfl rfl Try.underlying4) ?_
    refine ops_nil ?_
    refine at_then ?_
    refine run_cond (b := (t6207 != t6191)) rfl (fun hb6211 => ?_) (fun hb6211 => ?_)
    · replace H := cond_t hb6211 H
      refine run_seq ?_
      refine run_region rfl ?_
      refine ops_ex rfl (guard_none rfl) rfl rfl (ex_assign rfl rfl) ?_
      refine ops_nil ?_
      refine at_then ?_
      refine run_ret ?_
      refine at_then_ret ?_
      replace HM := (HM.front 0 rfl rfl).drop
      replace HM := (HM.front 0 rfl rfl).drop
      replace HM := (HM.front 0 rfl rfl).drop
      replace HM := (HM.front 0 rfl rfl).drop
      replace HM := (HM.front 0 rfl rfl).drop
      replace HM := (HM.front 0 rfl rfl).drop
      have hR := Option.some.inj H
      subst hR
      exact at_ret1 rfl rfl ⟨_, rfl, rfl, HM⟩
    · replace H := cond_f hb6211 H
      refine run_skip ?_
      refine at_then ?_
      refine run_seq ?_
      refine run_seq ?_
      obtain ⟨t6212, h6213, H⟩ := bind_some H
      obtain ⟨t6218, h6219, H⟩ := bind_some H
      refine run_draw (fun w_ => Mem w [] w_ [box b6201 85 [u6197, u6199], own kStr 9 u6197 t6195.fTexts, own kSign 134 u6199 t6195.fSigns, own kStr 9 u6187 t6185.fTexts, own kSign 134 u6189 t6185.fSigns, box b6176 80 [p0_0, p0_1]]) mixed rfl rfl ?_
      replace HM := HM.grow (fr_drew _)
      have hS := Mem.suf (M := []) HM
      refine drw_take (i := 0) (l' := #[true, false, false, false, false]) rfl (guard_none rfl) rfl rfl (by kernel_rfl) (fun w_ hS_ => (ex_loadN (cs := [u6197, u6199]) rfl rfl Try.underlying85 rfl tsz85 rfl ((hS_.box_at 0 rfl).sub 0 2 rfl))) hS ?_
      refine drw_take (i := 1) (l' := #[true, true, false, false, false]) rfl (guard_none rfl) rfl rfl (by kernel_rfl) (fun w_ hS_ => (ex_loadN (cs := [p0_0, p0_1]) rfl rfl Try.underlying80 rfl tsz80 rfl ((hS_.box_at 5 rfl).sub 0 2 rfl))) hS ?_
      refine drw_one (i := 2) (l' := #[true, true, true, false, false]) rfl (guard_none rfl) rfl rfl (by kernel_rfl) (does_callk rfl callok51 rfl (laws_toLedger.calls (x0 := x0) (HM.rd hp0_0) (HM.rd hp0_1) h6213)) ?_
      rintro _ w6220 ⟨u6214, u6216, rfl, hn⟩
      replace HM : Mem w [] w6220 [own kStr 9 u6214 t6212.fTexts, own kSign 134 u6216 t6212.fSigns, box b6201 85 [u6197, u6199], own kStr 9 u6197 t6195.fTexts, own kSign 134 u6199 t6195.fSigns, own kStr 9 u6187 t6185.fTexts, own kSign 134 u6189 t6185.fSigns, box b6176 80 [p0_0, p0_1]] := HM.call hn
      refine ⟨Mem.suf (M := [own kStr 9 u6214 t6212.fTexts, own kSign 134 u6216 t6212.fSigns]) HM, ?_⟩
      have hS := Mem.suf (M := [own kStr 9 u6214 t6212.fTexts, own kSign 134 u6216 t6212.fSigns]) HM
      refine drw_one (i := 3) (l' := #[true, true, true, true, false]) rfl (guard_none rfl) rfl rfl (by kernel_rfl) (does_callk rfl callok53 rfl (laws_eqLedger.calls (x0 := t6195) (x1 := t6212) (HM.own_rd 3 rfl) (HM.own_rd 4 rfl) (HM.own_rd 0 rfl) (HM.own_rd 1 rfl) h6219)) ?_
      rintro _ w6221 ⟨rfl, hn⟩
      replace HM : Mem w [] w6221 [own kStr 9 u6214 t6212.fTexts, own kSign 134 u6216 t6212.fSigns, box b6201 85 [u6197, u6199], own kStr 9 u6197 t6195.fTexts, own kSign 134 u6199 t6195.fSigns, own kStr 9 u6187 t6185.fTexts, own kSign 134 u6189 t6185.fSigns, box b6176 80 [p0_0, p0_1]] := HM.call hn
      refine ⟨Mem.suf (M := [own kStr 9 u6214 t6212.fTexts, own kSign 134 u6216 t6212.fSigns]) HM, ?_⟩
      have hS := Mem.suf (M := [own kStr 9 u6214 t6212.fTexts, own kSign 134 u6216 t6212.fSigns]) HM
      refine drw_take (i := 4) (l' := #[true, true, true, true, true]) rfl (guard_none rfl) rfl rfl (by kernel_rfl) (fun w_ hS_ => (ex_not rfl rfl)) hS ?_
      refine drw_done (by kernel_rfl) ?_
      refine at_then ?_
      refine run_cond (b := !t6218) rfl (fun hb6222 => ?_) (fun hb6222 => ?_)
      · replace H := cond_t hb6222 H
        refine run_seq ?_
        refine run_region rfl ?_
        refine ops_ex rfl (guard_none rfl) rfl rfl (ex_assign rfl rfl) ?_
        refine ops_nil ?_
        refine at_then ?_
        refine run_ret ?_
        refine at_then_ret ?_
        replace HM := (HM.front 0 rfl rfl).drop
        replace HM := (HM.front 0 rfl rfl).drop
        replace HM := (HM.front 0 rfl rfl).drop
        replace HM := (HM.front 0 rfl rfl).drop
        replace HM := (HM.front 0 rfl rfl).drop
        replace HM := (HM.front 0 rfl rfl).drop
        replace HM := (HM.front 0 rfl rfl).drop
        replace HM := (HM.front 0 rfl rfl).drop
        have hR := Option.some.inj H
        subst hR
        exact at_ret1 rfl rfl ⟨_, rfl, rfl, HM⟩
      · replace H := cond_f hb6222 H
        refine run_skip ?_
        refine at_then ?_
        refine run_seq ?_
        refine run_region rfl ?_
        refine ops_ex rfl (guard_none rfl) rfl rfl (ex_assign rfl rfl) ?_
        refine ops_nil ?_
        refine at_then ?_
        refine run_ret ?_
        replace HM := (HM.front 0 rfl rfl).drop
        replace HM := (HM.front 0 rfl rfl).drop
        replace HM := (HM.front 0 rfl rfl).drop
        replace HM := (HM.front 0 rfl rfl).drop
        replace HM := (HM.front 0 rfl rfl).drop
        replace HM := (HM.front 0 rfl rfl).drop
        replace HM := (HM.front 0 rfl rfl).drop
        replace HM := (HM.front 0 rfl rfl).drop
        have hR := Option.some.inj H
        subst hR
        exact at_ret1 rfl rfl ⟨_, rfl, rfl, HM⟩
end Go.Proofs.Ytkofpnbacgccnaa.Zk
