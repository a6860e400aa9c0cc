/- What functions of the program compute, each as a plain function, and that they do. Conditions: as each theorem states them. -/
import Derived.Test.YtkofpnbacgccnaaZkF8
namespace Go.Proofs.Ytkofpnbacgccnaa.Zk
open Go Go.RowKit Go.IntWalk Go.Proofs
set_option linter.unusedVariables false
set_option linter.unusedSimpArgs false
set_option maxRecDepth 100000
def laws_szStringS.l0 (x0 : List ByteArray) : Nat → Int → Int → Option (Int ⊕ Int)
  | 0, _, _ => none
  | k + 1, a4430, a4431 => (bif (decide (a4431 < (x0.length : Int))) then (chk (idxOk a4431 x0.length) (bif (decide ((wrap64 (a4430 - ((gt x0 a4431).size : Int))) < 0)) then some (.inl (-1)) else laws_szStringS.l0 x0 k (wrap64 (a4430 - ((gt x0 a4431).size : Int))) (wrap64 (a4431 + 1)))) else some (.inr a4430))
theorem laws_szStringS.l0_z (x0 : List ByteArray) (a4430 : Int) (a4431 : Int) : laws_szStringS.l0 x0 0 a4430 a4431 = none := rfl
theorem laws_szStringS.l0_s (x0 : List ByteArray) (k : Nat) (a4430 : Int) (a4431 : Int) : laws_szStringS.l0 x0 (k + 1) a4430 a4431 = (bif (decide (a4431 < (x0.length : Int))) then (chk (idxOk a4431 x0.length) (bif (decide ((wrap64 (a4430 - ((gt x0 a4431).size : Int))) < 0)) then some (.inl (-1)) else laws_szStringS.l0 x0 k (wrap64 (a4430 - ((gt x0 a4431).size : Int))) (wrap64 (a4431 + 1)))) else some (.inr a4430)) := rfl
def laws_szStringS.f (k : Nat) (x0 : List ByteArray) (x1 : Int) : Option Int := (bif (decide ((wrap64 (x1 - (x0.length : Int))) < 0)) then some (-1) else ((laws_szStringS.l0 x0 k (wrap64 (x1 - (x0.length : Int))) 0).bind fun o4424 => thn o4424 (fun r => some r) (fun a4423 => some a4423)))
theorem laws_szStringS.calls {k : Nat} {x0 : List ByteArray} {x1 : Int} {p0 : Value} {w : World} (hp0 : RdS kStr w p0 x0) {r : Int} (H : laws_szStringS.f k x0 x1 = some r) :
    Calls Try.prog 92 ([p0, .int .i64 x1] : List Value).toArray w (fun e w_ => ∃ v, e = .returned v ∧ v = (.int .i64 r) ∧ Mem w [] w_ []) := by
  have HM := Mem.start w
  refine calls_run (N := 28) Try.func92 rfl rfl rfl rfl ?_
  unfold laws_szStringS.f at H
  refine run_seq ?_
  refine run_region rfl ?_
  refine ops_ex rfl (guard_none rfl) rfl rfl (ex_assign rfl rfl) ?_
  refine ops_nil ?_
  refine at_then ?_
  refine run_seq ?_
  refine run_region rfl ?_
  refine ops_ex rfl (guard_none rfl) rfl rfl (ex_move rfl rfl) ?_
  refine ops_ex rfl (guard_none rfl) rfl rfl (ex_move rfl rfl) ?_
  refine ops_ex rfl (guard_none rfl) rfl rfl (ex_len (d := kStr) (xs := x0) rfl rfl Try.underlying77 hp0) ?_
  refine ops_ex rfl (guard_none rfl) rfl rfl (ex_sub rfl rfl rfl) ?_
  refine ops_ex rfl (guard_none rfl) rfl rfl (ex_assign rfl rfl) ?_
  refine ops_nil ?_
  refine at_then ?_
  refine run_seq ?_
  refine run_seq ?_
  refine run_region rfl ?_
  refine ops_ex rfl (guard_none rfl) rfl rfl (ex_move rfl rfl) ?_
  refine ops_ex rfl (guard_none rfl) rfl rfl (ex_lss rfl rfl rfl) ?_
  refine ops_nil ?_
  refine at_then ?_
  refine run_cond (b := (decide ((wrap64 (x1 - (x0.length : Int))) < 0))) rfl (fun hb4408 => ?_) (fun hb4408 => ?_)
  · replace H := cond_t hb4408 H
    refine run_seq ?_
    refine run_region rfl ?_
    refine ops_ex rfl (guard_none rfl) rfl rfl (ex_assign rfl rfl) ?_
    refine ops_nil ?_
    refine at_then ?_
    refine run_ret ?_
    refine at_then_ret ?_
    have hR := Option.some.inj H
    subst hR
    exact at_ret1 rfl rfl ⟨_, rfl, rfl, HM⟩
  · replace H := cond_f hb4408 H
    refine run_skip ?_
    refine at_then ?_
    obtain ⟨o4424, ho4425, H⟩ := bind_some H
    refine run_mid (fun ρ_ w_ => ∃ a4423 : Int, Sum.inr a4423 = o4424 ∧ ρ_ = [(1, .int .i64 a4423)] ∧ Mem w [] w_ []) ?_ ?_
    · skip
      refine run_seq ?_
      refine run_region rfl ?_
      refine ops_ex rfl (guard_none rfl) rfl rfl (ex_assign rfl rfl) ?_
      refine ops_nil ?_
      refine at_then ?_
      refine run_block ?_
      refine run_loop (fun k_ ρ_ w_ => ∃ a4430 : Int, ∃ a4431 : Int, laws_szStringS.l0 x0 k_ a4430 a4431 = some o4424 ∧ ρ_ = [(0, p0), (1, .int .i64 a4430), (5, .int .i64 a4431)] ∧ Mem w [] w_ []) k (ρ1 := [(0, p0), (1, .int .i64 (wrap64 (x1 - (x0.length : Int)))), (5, .int .i64 0)]) ⟨_, _, ho4425, rfl, HM⟩ (Sub.cons rfl (Sub.cons rfl (Sub.cons rfl Sub.nil))) ?_
      clear HM ho4425
      rintro k4436 _ w4437 ⟨a4430, a4431, ho4425, rfl, HM⟩
      obtain _ | k4436 := k4436
      · exact nomatch ((laws_szStringS.l0_z x0 a4430 a4431).symm.trans ho4425)
      replace ho4425 := (laws_szStringS.l0_s x0 k4436 a4430 a4431).symm.trans ho4425
      refine run_seq ?_
      refine run_seq ?_
      refine run_region rfl ?_
      refine ops_ex rfl (guard_none rfl) rfl rfl (ex_move rfl rfl) ?_
      refine ops_ex rfl (guard_none rfl) rfl rfl (ex_move rfl rfl) ?_
      refine ops_ex rfl (guard_none rfl) rfl rfl (ex_len (d := kStr) (xs := x0) rfl rfl Try.underlying77 hp0) ?_
      refine ops_ex rfl (guard_none rfl) rfl rfl (ex_lss rfl rfl rfl) ?_
      refine ops_nil ?_
      refine at_then ?_
      refine run_cond (b := (decide (a4431 < (x0.length : Int)))) rfl (fun hb4438 => ?_) (fun hb4438 => ?_)
      · replace ho4425 := cond_t hb4438 ho4425
        refine run_skip ?_
        refine at_then ?_
        refine run_seq ?_
        refine run_block ?_
        refine run_seq ?_
        obtain ⟨e4439, ho4425⟩ := chk_some ho4425
        refine run_region rfl ?_
        refine ops_ex rfl (guard_none rfl) rfl rfl (ex_move rfl rfl) ?_
        refine ops_ex rfl (guard_none rfl) rfl rfl (ex_move rfl rfl) ?_
        refine ops_ex rfl (guard_none rfl) rfl rfl (ex_move rfl rfl) ?_
        have hc4440 : CellsAt _ (sb p0) (so p0 + (a4431).toNat * 1) [(.string (gt x0 a4431))] := rd_plain hp0 e4439
        refine ops_ex rfl (guard_none rfl) rfl rfl (ex_indexAddr (d := kStr) rfl rfl rfl Try.underlying77 tsz9 hp0 (idx_lo e4439) (idx_hi e4439)) ?_
        refine ops_ex rfl (guard_none rfl) rfl rfl (ex_load1 rfl rfl Try.underlying9 rfl ((HM.at_ hc4440) 0 _ rfl)) ?_
        refine ops_ex rfl (guard_none rfl) rfl rfl (ex_strlen rfl rfl Try.underlying9) ?_
        refine ops_ex rfl (guard_none rfl) rfl rfl (ex_sub rfl rfl rfl) ?_
        refine ops_ex rfl (guard_none rfl) rfl rfl (ex_assign rfl rfl) ?_
        refine ops_nil ?_
        refine at_then ?_
        refine run_seq ?_
        refine run_region rfl ?_
        refine ops_ex rfl (guard_none rfl) rfl rfl (ex_move rfl rfl) ?_
        refine ops_ex rfl (guard_none rfl) rfl rfl (ex_lss rfl rfl rfl) ?_
        refine ops_nil ?_
        refine at_then ?_
        refine run_cond (b := (decide ((wrap64 (a4430 - ((gt x0 a4431).size : Int))) < 0))) rfl (fun hb4441 => ?_) (fun hb4441 => ?_)
        · replace ho4425 := cond_t hb4441 ho4425
          refine run_seq ?_
          refine run_region rfl ?_
          refine ops_ex rfl (guard_none rfl) rfl rfl (ex_assign rfl rfl) ?_
          refine ops_nil ?_
          refine at_then ?_
          refine run_ret ?_
          refine at_block_ret ?_
          refine at_then_ret ?_
          refine at_then_ret ?_
          refine at_block_ret ?_
          refine at_then_ret ?_
          have hR := Option.some.inj ho4425
          subst hR
          have hT := thn_inl H
          have hR := Option.some.inj hT
          subst hR
          exact at_ret1 rfl rfl ⟨_, rfl, rfl, HM⟩
        · replace ho4425 := cond_f hb4441 ho4425
          refine run_skip ?_
          refine at_block ?_
          refine at_then ?_
          refine run_region rfl ?_
          refine ops_ex rfl (guard_none rfl) rfl rfl (ex_move rfl rfl) ?_
          refine ops_ex rfl (guard_none rfl) rfl rfl (ex_add rfl rfl rfl) ?_
          refine ops_ex rfl (guard_none rfl) rfl rfl (ex_assign rfl rfl) ?_
          refine ops_nil ?_
          exact at_again k4436 (ρ1 := [(0, p0), (1, .int .i64 (wrap64 (a4430 - ((gt x0 a4431).size : Int)))), (5, .int .i64 (wrap64 (a4431 + 1)))]) (Nat.lt_succ_self _) ⟨_, _, ho4425, rfl, HM⟩ (Sub.cons rfl (Sub.cons rfl (Sub.cons rfl Sub.nil)))
      · replace ho4425 := cond_f hb4438 ho4425
        refine run_exit ?_
        refine at_then_exit ?_
        refine at_then_exit ?_
        refine at_block_exit ?_
        exact at_mid (ρ' := [(1, .int .i64 a4430)]) ⟨_, (Option.some.inj ho4425), rfl, HM⟩ (Sub.cons rfl Sub.nil)
    · rintro _ w4442 ⟨a4423, rfl, rfl, HM⟩
      replace H := (thn_inr H)
      refine run_seq ?_
      refine run_region rfl ?_
      refine ops_ex rfl (guard_none rfl) rfl rfl (ex_move rfl rfl) ?_
      refine ops_ex rfl (guard_none rfl) rfl rfl (ex_assign rfl rfl) ?_
      refine ops_nil ?_
      refine at_then ?_
      refine run_ret ?_
      have hR := Option.some.inj H
      subst hR
      exact at_ret1 rfl rfl ⟨_, rfl, rfl, HM⟩

def laws_szSignS.f (k : Nat) (x0 : List Sign) (x1 : Int) : Option Int := (bif (decide ((wrap64 (x1 - (x0.length : Int))) < 0)) then some (-1) else some (wrap64 (x1 - (x0.length : Int))))
theorem laws_szSignS.calls {k : Nat} {x0 : List Sign} {x1 : Int} {p0 : Value} {w : World} (hp0 : RdS kSign w p0 x0) {r : Int} (H : laws_szSignS.f k x0 x1 = some r) :
    Calls Try.prog 93 ([p0, .int .i64 x1] : List Value).toArray w (fun e w_ => ∃ v, e = .returned v ∧ v = (.int .i64 r) ∧ Mem w [] w_ []) := by
  have HM := Mem.start w
  refine calls_run (N := 12) Try.func93 rfl rfl rfl rfl ?_
  unfold laws_szSignS.f at H
  refine run_seq ?_
  refine run_region rfl ?_
  refine ops_ex rfl (guard_none rfl) rfl rfl (ex_assign rfl rfl) ?_
  refine ops_nil ?_
  refine at_then ?_
  refine run_seq ?_
  refine run_region rfl ?_
  refine ops_ex rfl (guard_none rfl) rfl rfl (ex_move rfl rfl) ?_
  refine ops_ex rfl (guard_none rfl) rfl rfl (ex_move rfl rfl) ?_
  refine ops_ex rfl (guard_none rfl) rfl rfl (ex_len (d := kSign) (xs := x0) rfl rfl Try.underlying78 hp0) ?_
  refine ops_ex rfl (guard_none rfl) rfl rfl (ex_sub rfl rfl rfl) ?_
  refine ops_ex rfl (guard_none rfl) rfl rfl (ex_assign rfl rfl) ?_
  refine ops_nil ?_
  refine at_then ?_
  refine run_seq ?_
  refine run_seq ?_
  refine run_region rfl ?_
  refine ops_ex rfl (guard_none rfl) rfl rfl (ex_move rfl rfl) ?_
  refine ops_ex rfl (guard_none rfl) rfl rfl (ex_lss rfl rfl rfl) ?_
  refine ops_nil ?_
  refine at_then ?_
  refine run_cond (b := (decide ((wrap64 (x1 - (x0.length : Int))) < 0))) rfl (fun hb4448 => ?_) (fun hb4448 => ?_)
  · replace H := cond_t hb4448 H
    refine run_seq ?_
    refine run_region rfl ?_
    refine ops_ex rfl (guard_none rfl) rfl rfl (ex_assign rfl rfl) ?_
    refine ops_nil ?_
    refine at_then ?_
    refine run_ret ?_
    refine at_then_ret ?_
    have hR := Option.some.inj H
    subst hR
    exact at_ret1 rfl rfl ⟨_, rfl, rfl, HM⟩
  · replace H := cond_f hb4448 H
    refine run_skip ?_
    refine at_then ?_
    refine run_seq ?_
    refine run_region rfl ?_
    refine ops_ex rfl (guard_none rfl) rfl rfl (ex_move rfl rfl) ?_
    refine ops_ex rfl (guard_none rfl) rfl rfl (ex_assign rfl rfl) ?_
    refine ops_nil ?_
    refine at_then ?_
    refine run_ret ?_
    have hR := Option.some.inj H
    subst hR
    exact at_ret1 rfl rfl ⟨_, rfl, rfl, HM⟩

def laws_szLedger.f (k : Nat) (x0 : Ledger) (x1 : Int) : Option Int := ((laws_szStringS.f k x0.fTexts x1).bind fun t4456 => (bif (decide (t4456 < 0)) then some (-1) else ((laws_szSignS.f k x0.fSigns t4456).bind fun t4461 => (bif (decide (t4461 < 0)) then some (-1) else some t4461))))
theorem laws_szLedger.calls {k : Nat} {x0 : Ledger} {x1 : Int} {p0_0 : Value} {p0_1 : Value} {w : World} (hp0_0 : RdS kStr w p0_0 x0.fTexts) (hp0_1 : RdS kSign w p0_1 x0.fSigns) {r : Int} (H : laws_szLedger.f k x0 x1 = some r) :
    Calls Try.prog 49 ([.agg #[p0_0, p0_1], .int .i64 x1] : List Value).toArray w (fun e w_ => ∃ v, e = .returned v ∧ v = (.int .i64 r) ∧ Mem w [] w_ []) := by
  have HM := Mem.start w
  refine calls_run (N := 18) Try.func49 rfl rfl rfl rfl ?_
  unfold laws_szLedger.f at H
  refine run_seq ?_
  refine run_region rfl ?_
  refine ops_does rfl (guard_none rfl) rfl rfl (does_box (cs := [p0_0, p0_1]) rfl rfl rfl HM) ?_
  rintro _ w4455 ⟨b4452, rfl, HM⟩
  refine ops_ex rfl (guard_none rfl) rfl rfl (ex_assign rfl rfl) ?_
  refine ops_nil ?_
  refine at_then ?_
  refine run_seq ?_
  obtain ⟨t4456, h4457, H⟩ := bind_some H
  refine run_region rfl ?_
  refine ops_ex rfl (guard_none rfl) rfl rfl (ex_fieldAddr (off' := 0) rfl rfl Try.underlying80 rfl tsz77 rfl) ?_
  refine ops_ex rfl (guard_none rfl) rfl rfl (ex_load1 rfl rfl Try.underlying77 rfl ((HM.box_at 0 rfl) 0 _ rfl)) ?_
  refine ops_ex rfl (guard_none rfl) rfl rfl (ex_move rfl rfl) ?_
  refine ops_does rfl (guard_none rfl) rfl rfl (does_callk rfl callok92 rfl (laws_szStringS.calls (x0 := x0.fTexts) (x1 := x1) (HM.rd hp0_0) h4457)) ?_
  rintro _ w4458 ⟨rfl, hn⟩
  replace HM : Mem w [] w4458 [box b4452 80 [p0_0, p0_1]] := HM.call hn
  refine ops_ex rfl (guard_none rfl) rfl rfl (ex_assign rfl rfl) ?_
  refine ops_nil ?_
  refine at_then ?_
  refine run_seq ?_
  refine run_seq ?_
  refine run_region rfl ?_
  refine ops_ex rfl (guard_none rfl) rfl rfl (ex_move rfl rfl) ?_
  refine ops_ex rfl (guard_none rfl) rfl rfl (ex_lss rfl rfl rfl) ?_
  refine ops_nil ?_
  refine at_then ?_
  refine run_cond (b := (decide (t4456 < 0))) rfl (fun hb4460 => ?_) (fun hb4460 => ?_)
  · replace H := cond_t hb4460 H
    refine run_seq ?_
    refine run_region rfl ?_
    refine ops_ex rfl (guard_none rfl) rfl rfl (ex_assign rfl rfl) ?_
    refine ops_nil ?_
    refine at_then ?_
    refine run_ret ?_
    refine at_then_ret ?_
    replace HM := (HM.front 0 rfl rfl).drop
    have hR := Option.some.inj H
    subst hR
    exact at_ret1 rfl rfl ⟨_, rfl, rfl, HM⟩
  · replace H := cond_f hb4460 H
    refine run_skip ?_
    refine at_then ?_
    refine run_seq ?_
    obtain ⟨t4461, h4462, H⟩ := bind_some H
    refine run_region rfl ?_
    refine ops_ex rfl (guard_none rfl) rfl rfl (ex_fieldAddr (off' := 1) rfl rfl Try.underlying80 rfl tsz78 rfl) ?_
    refine ops_ex rfl (guard_none rfl) rfl rfl (ex_load1 rfl rfl Try.underlying78 rfl ((HM.box_at 0 rfl) 1 _ rfl)) ?_
    refine ops_ex rfl (guard_none rfl) rfl rfl (ex_move rfl rfl) ?_
    refine ops_does rfl (guard_none rfl) rfl rfl (does_callk rfl callok93 rfl (laws_szSignS.calls (x0 := x0.fSigns) (x1 := t4456) (HM.rd hp0_1) h4462)) ?_
    rintro _ w4463 ⟨rfl, hn⟩
    replace HM : Mem w [] w4463 [box b4452 80 [p0_0, p0_1]] := HM.call hn
    refine ops_ex rfl (guard_none rfl) rfl rfl (ex_assign rfl rfl) ?_
    refine ops_nil ?_
    refine at_then ?_
    refine run_seq ?_
    refine run_seq ?_
    refine run_region rfl ?_
    refine ops_ex rfl (guard_none rfl) rfl rfl (ex_move rfl rfl) ?_
    refine ops_ex rfl (guard_none rfl) rfl rfl (ex_lss rfl rfl rfl) ?_
    refine ops_nil ?_
    refine at_then ?_
    refine run_cond (b := (decide (t4461 < 0))) rfl (fun hb4464 => ?_) (fun hb4464 => ?_)
    · replace H := cond_t hb4464 H
      refine run_seq ?_
      refine run_region rfl ?_
      refine ops_ex rfl (guard_none rfl) rfl rfl (ex_assign rfl rfl) ?_
      refine ops_nil ?_
      refine at_then ?_
      refine run_ret ?_
      refine at_then_ret ?_
      replace HM := (HM.front 0 rfl rfl).drop
      have hR := Option.some.inj H
      subst hR
      exact at_ret1 rfl rfl ⟨_, rfl, rfl, HM⟩
    · replace H := cond_f hb4464 H
      refine run_skip ?_
      refine at_then ?_
      refine run_seq ?_
      refine run_region rfl ?_
      refine ops_ex rfl (guard_none rfl) rfl rfl (ex_move rfl rfl) ?_
      refine ops_ex rfl (guard_none rfl) rfl rfl (ex_assign rfl rfl) ?_
      refine ops_nil ?_
      refine at_then ?_
      refine run_ret ?_
      replace HM := (HM.front 0 rfl rfl).drop
      have hR := Option.some.inj H
      subst hR
      exact at_ret1 rfl rfl ⟨_, rfl, rfl, HM⟩

def laws_toStringS.l0 (x0 : List ByteArray) : Nat → (List ByteArray) → Int → Option ((List ByteArray))
  | 0, _, _ => none
  | k + 1, a4536, a4538 => (bif (decide (a4538 < (x0.length : Int))) then (chk (idxOk a4538 x0.length) (chk (idxOk a4538 a4536.length) (laws_toStringS.l0 x0 k (a4536.set (a4538).toNat (gt x0 a4538)) (wrap64 (a4538 + 1))))) else some a4536)
theorem laws_toStringS.l0_z (x0 : List ByteArray) (a4536 : List ByteArray) (a4538 : Int) : laws_toStringS.l0 x0 0 a4536 a4538 = none := rfl
theorem laws_toStringS.l0_s (x0 : List ByteArray) (k : Nat) (a4536 : List ByteArray) (a4538 : Int) : laws_toStringS.l0 x0 (k + 1) a4536 a4538 = (bif (decide (a4538 < (x0.length : Int))) then (chk (idxOk a4538 x0.length) (chk (idxOk a4538 a4536.length) (laws_toStringS.l0 x0 k (a4536.set (a4538).toNat (gt x0 a4538)) (wrap64 (a4538 + 1))))) else some a4536) := rfl
def laws_toStringS.f (k : Nat) (x0 : List ByteArray) : Option ((List ByteArray)) := (chk (decide (0 ≤ (x0.length : Int))) (chk (leB (((x0.length : Int)).toNat * 16) 281474976710656) ((laws_toStringS.l0 x0 k (List.replicate ((x0.length : Int)).toNat (⟨#[]⟩ : ByteArray)) 0).bind (fun a4527 => some a4527))))
theorem laws_toStringS.calls {k : Nat} {x0 : List ByteArray} {p0 : Value} {w : World} (hp0 : RdS kStr w p0 x0) {r : (List ByteArray)} (H : laws_toStringS.f k x0 = some r) :
    Calls Try.prog 95 ([p0] : List Value).toArray w (fun e w_ => ∃ v, e = .returned v ∧ ∃ u0 : Value, v = u0 ∧ Mem w [] w_ [own kStr 9 u0 r]) := by
  have HM := Mem.start w
  refine calls_run (N := 22) Try.func95 rfl rfl rfl rfl ?_
  unfold laws_toStringS.f at H
  refine run_seq ?_
  refine run_region rfl ?_
  refine ops_ex rfl (guard_none rfl) rfl rfl (ex_assign rfl rfl) ?_
  refine ops_nil ?_
  refine at_then ?_
  refine run_seq ?_
  obtain ⟨e4507, H⟩ := chk_some H
  obtain ⟨e4508, H⟩ := chk_some H
  refine run_region rfl ?_
  refine ops_ex rfl (guard_none rfl) rfl rfl (ex_move rfl rfl) ?_
  refine ops_ex rfl (guard_none rfl) rfl rfl (ex_len (d := kStr) (xs := x0) rfl rfl Try.underlying77 hp0) ?_
  refine ops_does rfl (guard_none rfl) rfl rfl (does_make (x := (⟨#[]⟩ : ByteArray)) kStr rfl rfl rfl Try.underlying77 tsz9 tby9 tz9 rfl rfl (fun _ => ⟨rfl, rfl⟩) (of_decide_eq_true e4507) rfl (leB_le e4508) rfl HM) ?_
  rintro v4504 w4509 HM
  refine ops_ex rfl (guard_none rfl) rfl rfl (ex_assign rfl rfl) ?_
  refine ops_nil ?_
  refine at_then ?_
  obtain ⟨o4529, ho4530, H⟩ := bind_some H
  refine run_mid (fun ρ_ w_ => ∃ v4526 : Value, ∃ a4527 : List ByteArray, a4527 = o4529 ∧ ρ_ = [(3, v4526)] ∧ Mem w [] w_ [own kStr 9 v4526 a4527]) ?_ ?_
  · clear H
    refine run_seq ?_
    refine run_region rfl ?_
    refine ops_ex rfl (guard_none rfl) rfl rfl (ex_assign rfl rfl) ?_
    refine ops_nil ?_
    refine at_then ?_
    refine run_block ?_
    refine run_loop (fun k_ ρ_ w_ => ∃ v4535 : Value, ∃ a4536 : List ByteArray, ∃ a4538 : Int, laws_toStringS.l0 x0 k_ a4536 a4538 = some o4529 ∧ ρ_ = [(0, p0), (3, v4535), (4, .int .i64 a4538)] ∧ Mem w [] w_ [own kStr 9 v4535 a4536]) k (ρ1 := [(0, p0), (3, v4504), (4, .int .i64 0)]) ⟨_, _, _, ho4530, rfl, HM⟩ (Sub.cons rfl (Sub.cons rfl (Sub.cons rfl Sub.nil))) ?_
    clear HM ho4530
    rintro k4543 _ w4544 ⟨v4535, a4536, a4538, ho4530, rfl, HM⟩
    obtain _ | k4543 := k4543
    · exact nomatch ((laws_toStringS.l0_z x0 a4536 a4538).symm.trans ho4530)
    replace ho4530 := (laws_toStringS.l0_s x0 k4543 a4536 a4538).symm.trans ho4530
    refine run_seq ?_
    refine run_seq ?_
    refine run_region rfl ?_
    refine ops_ex rfl (guard_none rfl) rfl rfl (ex_move rfl rfl) ?_
    refine ops_ex rfl (guard_none rfl) rfl rfl (ex_move rfl rfl) ?_
    refine ops_ex rfl (guard_none rfl) rfl rfl (ex_len (d := kStr) (xs := x0) rfl rfl Try.underlying77 hp0) ?_
    refine ops_ex rfl (guard_none rfl) rfl rfl (ex_lss rfl rfl rfl) ?_
    refine ops_nil ?_
    refine at_then ?_
    refine run_cond (b := (decide (a4538 < (x0.length : Int)))) rfl (fun hb4545 => ?_) (fun hb4545 => ?_)
    · replace ho4530 := cond_t hb4545 ho4530
      refine run_skip ?_
      refine at_then ?_
      refine run_seq ?_
      refine run_block ?_
      obtain ⟨e4546, ho4530⟩ := chk_some ho4530
      obtain ⟨e4548, ho4530⟩ := chk_some ho4530
      refine run_region rfl ?_
      refine ops_ex rfl (guard_none rfl) rfl rfl (ex_move rfl rfl) ?_
      refine ops_ex rfl (guard_none rfl) rfl rfl (ex_move rfl rfl) ?_
      refine ops_ex rfl (guard_none rfl) rfl rfl (ex_move rfl rfl) ?_
      refine ops_ex rfl (guard_none rfl) rfl rfl (ex_move rfl rfl) ?_
      have hc4547 : CellsAt _ (sb p0) (so p0 + (a4538).toNat * 1) [(.string (gt x0 a4538))] := rd_plain hp0 e4546
      refine ops_ex rfl (guard_none rfl) rfl rfl (ex_indexAddr (d := kStr) rfl rfl rfl Try.underlying77 tsz9 hp0 (idx_lo e4546) (idx_hi e4546)) ?_
      refine ops_ex rfl (guard_none rfl) rfl rfl (ex_load1 rfl rfl Try.underlying9 rfl ((HM.at_ hc4547) 0 _ rfl)) ?_
      refine ops_ex rfl (guard_none rfl) rfl rfl (ex_indexAddr (d := kStr) rfl rfl rfl Try.underlying77 tsz9 (HM.own_rd 0 rfl) (idx_lo e4548) (idx_hi e4548)) ?_
      refine ops_doesS rfl (guard_none rfl) rfl (does_setElem (vs := [(.string (gt x0 a4538))]) (y := (gt x0 a4538)) kStr rfl rfl rfl rfl rfl tsz9 rfl rfl (idx_nat e4548) (fun _ _ h => ⟨rfl, h⟩) (HM.emp.front 1 rfl rfl)) ?_
      rintro w4549 HM
      refine ops_nil ?_
      refine at_block ?_
      refine at_then ?_
      refine run_region rfl ?_
      refine ops_ex rfl (guard_none rfl) rfl rfl (ex_move rfl rfl) ?_
      refine ops_ex rfl (guard_none rfl) rfl rfl (ex_add rfl rfl rfl) ?_
      refine ops_ex rfl (guard_none rfl) rfl rfl (ex_assign rfl rfl) ?_
      refine ops_nil ?_
      exact at_again k4543 (ρ1 := [(0, p0), (3, v4535), (4, .int .i64 (wrap64 (a4538 + 1)))]) (Nat.lt_succ_self _) ⟨_, _, _, ho4530, rfl, HM⟩ (Sub.cons rfl (Sub.cons rfl (Sub.cons rfl Sub.nil)))
    · replace ho4530 := cond_f hb4545 ho4530
      refine run_exit ?_
      refine at_then_exit ?_
      refine at_then_exit ?_
      refine at_block_exit ?_
      exact at_mid (ρ' := [(3, v4535)]) ⟨_, _, (Option.some.inj ho4530), rfl, HM⟩ (Sub.cons rfl Sub.nil)
  · rintro _ w4550 ⟨v4526, a4527, rfl, rfl, HM⟩
    refine run_seq ?_
    refine run_region rfl ?_
    refine ops_ex rfl (guard_none rfl) rfl rfl (ex_move rfl rfl) ?_
    refine ops_ex rfl (guard_none rfl) rfl rfl (ex_assign rfl rfl) ?_
    refine ops_nil ?_
    refine at_then ?_
    refine run_ret ?_
    have hR := Option.some.inj H
    subst hR
    exact at_ret1 rfl rfl ⟨_, rfl, _, rfl, HM⟩

def laws_toSign.f (k : Nat) (x0 : Sign) : Option Sign := some x0
theorem laws_toSign.calls {k : Nat} {x0 : Sign}  {w : World}  {r : Sign} (H : laws_toSign.f k x0 = some r) :
    Calls Try.prog 116 ([.agg #[(.int .i64 x0.fKey), (.int .i64 x0.fId)]] : List Value).toArray w (fun e w_ => ∃ v, e = .returned v ∧ v = (.agg #[.int .i64 r.fKey, .int .i64 r.fId]) ∧ Mem w [] w_ []) := by
  have HM := Mem.start w
  refine calls_run (N := 11) Try.func116 rfl rfl rfl rfl ?_
  unfold laws_toSign.f at H
  refine run_seq ?_
  refine run_region rfl ?_
  refine ops_does rfl (guard_none rfl) rfl rfl (does_box (cs := [.int .i64 x0.fKey, .int .i64 x0.fId]) rfl rfl rfl HM) ?_
  rintro _ w4578 ⟨b4572, rfl, HM⟩
  refine ops_does rfl (guard_none rfl) rfl rfl (does_alloc (cs := [.int .i64 0, .int .i64 0]) rfl tz134 rfl HM) ?_
  rintro _ w4579 ⟨b4575, rfl, HM⟩
  refine ops_nil ?_
  refine at_then ?_
  refine run_seq ?_
  refine run_region rfl ?_
  refine ops_does rfl (guard_none rfl) rfl rfl (does_alloc (cs := [.int .i64 0, .int .i64 0]) rfl tz134 rfl HM) ?_
  rintro _ w4583 ⟨b4580, rfl, HM⟩
  refine ops_nil ?_
  refine at_then ?_
  refine run_seq ?_
  refine run_region rfl ?_
  refine ops_ex rfl (guard_none rfl) rfl rfl (ex_fieldAddr (off' := 0) rfl rfl Try.underlying147 rfl tsz2 rfl) ?_
  refine ops_ex rfl (guard_none rfl) rfl rfl (ex_load1 rfl rfl Try.underlying2 rfl ((HM.box_at 2 rfl) 0 _ rfl)) ?_
  refine ops_ex rfl (guard_none rfl) rfl rfl (ex_fieldAddr (off' := 0) rfl rfl Try.underlying134 rfl tsz2 rfl) ?_
  refine ops_doesS rfl (guard_none rfl) rfl (does_store (vs := [.int .i64 x0.fKey]) (cs' := [.int .i64 x0.fKey, .int .i64 0]) rfl rfl rfl rfl tsz2 (Ones.int Ones.nil) rfl rfl HM) ?_
  rintro w4584 HM
  refine ops_nil ?_
  refine at_then ?_
  refine run_seq ?_
  refine run_region rfl ?_
  refine ops_ex rfl (guard_none rfl) rfl rfl (ex_fieldAddr (off' := 1) rfl rfl Try.underlying147 rfl tsz2 rfl) ?_
  refine ops_ex rfl (guard_none rfl) rfl rfl (ex_load1 rfl rfl Try.underlying2 rfl ((HM.box_at 2 rfl) 1 _ rfl)) ?_
  refine ops_ex rfl (guard_none rfl) rfl rfl (ex_fieldAddr (off' := 1) rfl rfl Try.underlying134 rfl tsz2 rfl) ?_
  refine ops_doesS rfl (guard_none rfl) rfl (does_store (vs := [.int .i64 x0.fId]) (cs' := [.int .i64 x0.fKey, .int .i64 x0.fId]) rfl rfl rfl rfl tsz2 (Ones.int Ones.nil) rfl rfl HM) ?_
  rintro w4585 HM
  refine ops_nil ?_
  refine at_then ?_
  refine run_seq ?_
  refine run_region rfl ?_
  refine ops_ex rfl (guard_none rfl) rfl rfl (ex_loadN (cs := [(.int .i64 x0.fKey), (.int .i64 x0.fId)]) rfl rfl Try.underlying134 rfl tsz134 rfl ((HM.box_at 0 rfl).sub 0 2 rfl)) ?_
  replace HM := HM.front 1 rfl rfl
  refine ops_doesS rfl (guard_none rfl) rfl (does_store (vs := [.int .i64 x0.fKey, .int .i64 x0.fId]) (cs' := [.int .i64 x0.fKey, .int .i64 x0.fId]) rfl rfl rfl rfl tsz134 (Ones.int (Ones.int Ones.nil)) rfl rfl HM) ?_
  rintro w4586 HM
  refine ops_nil ?_
  refine at_then ?_
  refine run_ret ?_
  replace HM := (HM.front 1 rfl rfl).drop
  replace HM := (HM.front 1 rfl rfl).drop
  have hcb0 := HM.box_at 0 rfl
  replace HM := (HM.front 0 rfl rfl).drop
  have hR := Option.some.inj H
  subst hR
  exact at_retN rfl rfl Try.underlying134 rfl tsz134 rfl hcb0 ⟨_, rfl, rfl, HM⟩

def laws_toSignS.l0 (x0 : List Sign) : Nat → (List Sign) → Int → Option ((List Sign))
  | 0, _, _ => none
  | k + 1, a4651, a4653 => (bif (decide (a4653 < (x0.length : Int))) then (chk (idxOk a4653 x0.length) ((laws_toSign.f k (gt x0 a4653)).bind fun t4665 => (chk (idxOk a4653 a4651.length) (laws_toSignS.l0 x0 k (a4651.set (a4653).toNat t4665) (wrap64 (a4653 + 1)))))) else some a4651)
theorem laws_toSignS.l0_z (x0 : List Sign) (a4651 : List Sign) (a4653 : Int) : laws_toSignS.l0 x0 0 a4651 a4653 = none := rfl
theorem laws_toSignS.l0_s (x0 : List Sign) (k : Nat) (a4651 : List Sign) (a4653 : Int) : laws_toSignS.l0 x0 (k + 1) a4651 a4653 = (bif (decide (a4653 < (x0.length : Int))) then (chk (idxOk a4653 x0.length) ((laws_toSign.f k (gt x0 a4653)).bind fun t4665 => (chk (idxOk a4653 a4651.length) (laws_toSignS.l0 x0 k (a4651.set (a4653).toNat t4665) (wrap64 (a4653 + 1)))))) else some a4651) := rfl
def laws_toSignS.f (k : Nat) (x0 : List Sign) : Option ((List Sign)) := (chk (decide (0 ≤ (x0.length : Int))) (chk (leB (((x0.length : Int)).toNat * 16) 281474976710656) ((laws_toSignS.l0 x0 k (List.replicate ((x0.length : Int)).toNat (⟨0, 0⟩ : Sign)) 0).bind (fun a4640 => some a4640))))
theorem laws_toSignS.calls {k : Nat} {x0 : List Sign} {p0 : Value} {w : World} (hp0 : RdS kSign w p0 x0) {r : (List Sign)} (H : laws_toSignS.f k x0 = some r) :
    Calls Try.prog 96 ([p0] : List Value).toArray w (fun e w_ => ∃ v, e = .returned v ∧ ∃ u0 : Value, v = u0 ∧ Mem w [] w_ [own kSign 134 u0 r]) := by
  have HM := Mem.start w
  refine calls_run (N := 23) Try.func96 rfl rfl rfl rfl ?_
  unfold laws_toSignS.f at H
  refine run_seq ?_
  refine run_region rfl ?_
  refine ops_ex rfl (guard_none rfl) rfl rfl (ex_assign rfl rfl) ?_
  refine ops_nil ?_
  refine at_then ?_
  refine run_seq ?_
  obtain ⟨e4614, H⟩ := chk_some H
  obtain ⟨e4615, H⟩ := chk_some H
  refine run_region rfl ?_
  refine ops_ex rfl (guard_none rfl) rfl rfl (ex_move rfl rfl) ?_
  refine ops_ex rfl (guard_none rfl) rfl rfl (ex_len (d := kSign) (xs := x0) rfl rfl Try.underlying78 hp0) ?_
  refine ops_does rfl (guard_none rfl) rfl rfl (does_make (x := (⟨0, 0⟩ : Sign)) kSign rfl rfl rfl Try.underlying83 tsz134 tby134 tz134 rfl rfl (fun _ => ⟨rfl, rfl⟩) (of_decide_eq_true e4614) rfl (leB_le e4615) rfl HM) ?_
  rintro v4611 w4616 HM
  refine ops_ex rfl (guard_none rfl) rfl rfl (ex_assign rfl rfl) ?_
  refine ops_nil ?_
  refine at_then ?_
  obtain ⟨o4642, ho4643, H⟩ := bind_some H
  refine run_mid (fun ρ_ w_ => ∃ v4639 : Value, ∃ a4640 : List Sign, a4640 = o4642 ∧ ρ_ = [(3, v4639)] ∧ Mem w [] w_ [own kSign 134 v4639 a4640]) ?_ ?_
  · clear H
    refine run_seq ?_
    refine run_region rfl ?_
    refine ops_ex rfl (guard_none rfl) rfl rfl (ex_assign rfl rfl) ?_
    refine ops_nil ?_
    refine at_then ?_
    refine run_block ?_
    refine run_loop (fun k_ ρ_ w_ => ∃ v4650 : Value, ∃ a4651 : List Sign, ∃ a4653 : Int, laws_toSignS.l0 x0 k_ a4651 a4653 = some o4642 ∧ ρ_ = [(0, p0), (3, v4650), (4, .int .i64 a4653)] ∧ Mem w [] w_ [own kSign 134 v4650 a4651]) k (ρ1 := [(0, p0), (3, v4611), (4, .int .i64 0)]) ⟨_, _, _, ho4643, rfl, HM⟩ (Sub.cons rfl (Sub.cons rfl (Sub.cons rfl Sub.nil))) ?_
    clear HM ho4643
    rintro k4660 _ w4661 ⟨v4650, a4651, a4653, ho4643, rfl, HM⟩
    obtain _ | k4660 := k4660
    · exact nomatch ((laws_toSignS.l0_z x0 a4651 a4653).symm.trans ho4643)
    replace ho4643 := (laws_toSignS.l0_s x0 k4660 a4651 a4653).symm.trans ho4643
    refine run_seq ?_
    refine run_seq ?_
    refine run_region rfl ?_
    refine ops_ex rfl (guard_none rfl) rfl rfl (ex_move rfl rfl) ?_
    refine ops_ex rfl (guard_none rfl) rfl rfl (ex_move rfl rfl) ?_
    refine ops_ex rfl (guard_none rfl) rfl rfl (ex_len (d := kSign) (xs := x0) rfl rfl Try.underlying78 hp0) ?_
    refine ops_ex rfl (guard_none rfl) rfl rfl (ex_lss rfl rfl rfl) ?_
    refine ops_nil ?_
    refine at_then ?_
    refine run_cond (b := (decide (a4653 < (x0.length : Int)))) rfl (fun hb4662 => ?_) (fun hb4662 => ?_)
    · replace ho4643 := cond_t hb4662 ho4643
      refine run_skip ?_
      refine at_then ?_
      refine run_seq ?_
      refine run_block ?_
      obtain ⟨e4663, ho4643⟩ := chk_some ho4643
      obtain ⟨t4665, h4666, ho4643⟩ := bind_some ho4643
      obtain ⟨e4667, ho4643⟩ := chk_some ho4643
      refine run_region rfl ?_
      refine ops_ex rfl (guard_none rfl) rfl rfl (ex_move rfl rfl) ?_
      refine ops_ex rfl (guard_none rfl) rfl rfl (ex_move rfl rfl) ?_
      refine ops_ex rfl (guard_none rfl) rfl rfl (ex_move rfl rfl) ?_
      refine ops_ex rfl (guard_none rfl) rfl rfl (ex_move rfl rfl) ?_
      have hc4664 : CellsAt _ (sb p0) (so p0 + (a4653).toNat * 2) [(.int .i64 ((gt x0 a4653).fKey)), (.int .i64 ((gt x0 a4653).fId))] := rd_plain hp0 e4663
      refine ops_ex rfl (guard_none rfl) rfl rfl (ex_indexAddr (d := kSign) rfl rfl rfl Try.underlying78 tsz147 hp0 (idx_lo e4663) (idx_hi e4663)) ?_
      refine ops_ex rfl (guard_none rfl) rfl rfl (ex_loadN (cs := [(.int .i64 ((gt x0 a4653).fKey)), (.int .i64 ((gt x0 a4653).fId))]) rfl rfl Try.underlying147 rfl tsz147 rfl ((HM.at_ hc4664).sub 0 2 rfl)) ?_
      refine ops_does rfl (guard_none rfl) rfl rfl (does_callk rfl callok116 rfl (laws_toSign.calls (x0 := (gt x0 a4653)) h4666)) ?_
      rintro _ w4668 ⟨rfl, hn⟩
      replace HM : Mem w [] w4668 [own kSign 134 v4650 a4651] := HM.call hn
      refine ops_ex rfl (guard_none rfl) rfl rfl (ex_indexAddr (d := kSign) rfl rfl rfl Try.underlying83 tsz134 (HM.own_rd 0 rfl) (idx_lo e4667) (idx_hi e4667)) ?_
      refine ops_doesS rfl (guard_none rfl) rfl (does_setElem (vs := [(.int .i64 t4665.fKey), (.int .i64 t4665.fId)]) (y := t4665) kSign rfl rfl rfl rfl rfl tsz134 rfl rfl (idx_nat e4667) (fun _ _ h => ⟨rfl, h⟩) (HM.emp.front 1 rfl rfl)) ?_
      rintro w4669 HM
      refine ops_nil ?_
      refine at_block ?_
      refine at_then ?_
      refine run_region rfl ?_
      refine ops_ex rfl (guard_none rfl) rfl rfl (ex_move rfl rfl) ?_
      refine ops_ex rfl (guard_none rfl) rfl rfl (ex_add rfl rfl rfl) ?_
      refine ops_ex rfl (guard_none rfl) rfl rfl (ex_assign rfl rfl) ?_
      refine ops_nil ?_
      exact at_again k4660 (ρ1 := [(0, p0), (3, v4650), (4, .int .i64 (wrap64 (a4653 + 1)))]) (Nat.lt_succ_self _) ⟨_, _, _, ho4643, rfl, HM⟩ (Sub.cons rfl (Sub.cons rfl (Sub.cons rfl Sub.nil)))
    · replace ho4643 := cond_f hb4662 ho4643
      refine run_exit ?_
      refine at_then_exit ?_
      refine at_then_exit ?_
      refine at_block_exit ?_
      exact at_mid (ρ' := [(3, v4650)]) ⟨_, _, (Option.some.inj ho4643), rfl, HM⟩ (Sub.cons rfl Sub.nil)
  · rintro _ w4670 ⟨v4639, a4640, rfl, rfl, HM⟩
    refine run_seq ?_
    refine run_region rfl ?_
    refine ops_ex rfl (guard_none rfl) rfl rfl (ex_move rfl rfl) ?_
    refine ops_ex rfl (guard_none rfl) rfl rfl (ex_assign rfl rfl) ?_
    refine ops_nil ?_
    refine at_then ?_
    refine run_ret ?_
    have hR := Option.some.inj H
    subst hR
    exact at_ret1 rfl rfl ⟨_, rfl, _, rfl, HM⟩

def laws_toLedger.f (k : Nat) (x0 : Ledger) : Option Ledger := ((laws_toStringS.f k x0.fTexts).bind fun t4687 => ((laws_toSignS.f k x0.fSigns).bind fun t4693 => some (⟨t4687, t4693⟩ : Ledger)))
theorem laws_toLedger.calls {k : Nat} {x0 : Ledger} {p0_0 : Value} {p0_1 : Value} {w : World} (hp0_0 : RdS kStr w p0_0 x0.fTexts) (hp0_1 : RdS kSign w p0_1 x0.fSigns) {r : Ledger} (H : laws_toLedger.f k x0 = some r) :
    Calls Try.prog 51 ([.agg #[p0_0, p0_1]] : List Value).toArray w (fun e w_ => ∃ v, e = .returned v ∧ ∃ u0 : Value, ∃ u1 : Value, v = (.agg #[u0, u1]) ∧ Mem w [] w_ [own kStr 9 u0 r.fTexts, own kSign 134 u1 r.fSigns]) := by
  have HM := Mem.start w
  refine calls_run (N := 13) Try.func51 rfl rfl rfl rfl ?_
  unfold laws_toLedger.f at H
  refine run_seq ?_
  refine run_region rfl ?_
  refine ops_does rfl (guard_none rfl) rfl rfl (does_box (cs := [p0_0, p0_1]) rfl rfl rfl HM) ?_
  rintro _ w4681 ⟨b4675, rfl, HM⟩
  refine ops_does rfl (guard_none rfl) rfl rfl (does_alloc (cs := [.slice none 0 0, .slice none 0 0]) rfl tz85 rfl HM) ?_
  rintro _ w4682 ⟨b4678, rfl, HM⟩
  refine ops_nil ?_
  refine at_then ?_
  refine run_seq ?_
  refine run_region rfl ?_
  refine ops_does rfl (guard_none rfl) rfl rfl (does_alloc (cs := [.slice none 0 0, .slice none 0 0]) rfl tz85 rfl HM) ?_
  rintro _ w4686 ⟨b4683, rfl, HM⟩
  refine ops_nil ?_
  refine at_then ?_
  refine run_seq ?_
  obtain ⟨t4687, h4688, H⟩ := bind_some H
  refine run_region rfl ?_
  refine ops_ex rfl (guard_none rfl) rfl rfl (ex_fieldAddr (off' := 0) rfl rfl Try.underlying80 rfl tsz77 rfl) ?_
  refine ops_ex rfl (guard_none rfl) rfl rfl (ex_load1 rfl rfl Try.underlying77 rfl ((HM.box_at 2 rfl) 0 _ rfl)) ?_
  refine ops_does rfl (guard_none rfl) rfl rfl (does_callk rfl callok95 rfl (laws_toStringS.calls (x0 := x0.fTexts) (HM.rd hp0_0) h4688)) ?_
  rintro u4689 w4691 ⟨_, rfl, hn⟩
  replace HM : Mem w [] w4691 [own kStr 9 u4689 t4687, box b4683 85 [.slice none 0 0, .slice none 0 0], box b4678 85 [.slice none 0 0, .slice none 0 0], box b4675 80 [p0_0, p0_1]] := HM.call hn
  refine ops_ex rfl (guard_none rfl) rfl rfl (ex_fieldAddr (off' := 0) rfl rfl Try.underlying85 rfl tsz77 rfl) ?_
  replace HM := HM.front 1 rfl rfl
  refine ops_doesS rfl (guard_none rfl) rfl (does_store (vs := [u4689]) (cs' := [u4689, .slice none 0 0]) rfl rfl rfl (rd_cells (HM.own_rd 1 rfl)) tsz77 (Ones.rd (HM.own_rd 1 rfl) Ones.nil) rfl rfl HM) ?_
  rintro w4692 HM
  refine ops_nil ?_
  refine at_then ?_
  refine run_seq ?_
  obtain ⟨t4693, h4694, H⟩ := bind_some H
  refine run_region rfl ?_
  refine ops_ex rfl (guard_none rfl) rfl rfl (ex_fieldAddr (off' := 1) rfl rfl Try.underlying80 rfl tsz78 rfl) ?_
  refine ops_ex rfl (guard_none rfl) rfl rfl (ex_load1 rfl rfl Try.underlying78 rfl ((HM.box_at 3 rfl) 1 _ rfl)) ?_
  refine ops_does rfl (guard_none rfl) rfl rfl (does_callk rfl callok96 rfl (laws_toSignS.calls (x0 := x0.fSigns) (HM.rd hp0_1) h4694)) ?_
  rintro u4695 w4697 ⟨_, rfl, hn⟩
  replace HM : Mem w [] w4697 [own kSign 134 u4695 t4693, box b4683 85 [u4689, .slice none 0 0], own kStr 9 u4689 t4687, box b4678 85 [.slice none 0 0, .slice none 0 0], box b4675 80 [p0_0, p0_1]] := HM.call hn
  refine ops_ex rfl (guard_none rfl) rfl rfl (ex_fieldAddr (off' := 1) rfl rfl Try.underlying85 rfl tsz83 rfl) ?_
  replace HM := HM.front 1 rfl rfl
  refine ops_doesS rfl (guard_none rfl) rfl (does_store (vs := [u4695]) (cs' := [u4689, u4695]) rfl rfl rfl (rd_cells (HM.own_rd 1 rfl)) tsz83 (Ones.rd (HM.own_rd 1 rfl) Ones.nil) rfl rfl HM) ?_
  rintro w4698 HM
  refine ops_nil ?_
  refine at_then ?_
  refine run_seq ?_
  refine run_region rfl ?_
  refine ops_ex rfl (guard_none rfl) rfl rfl (ex_loadN (cs := [u4689, u4695]) rfl rfl Try.underlying85 rfl tsz85 rfl ((HM.box_at 0 rfl).sub 0 2 rfl)) ?_
  replace HM := HM.front 3 rfl rfl
  refine ops_doesS rfl (guard_none rfl) rfl (does_store (vs := [u4689, u4695]) (cs' := [u4689, u4695]) rfl rfl rfl rfl tsz85 (Ones.rd (HM.own_rd 3 rfl) (Ones.rd (HM.own_rd 2 rfl) Ones.nil)) rfl rfl HM) ?_
  rintro w4699 HM
  refine ops_nil ?_
  refine at_then ?_
  refine run_ret ?_
  replace HM := (HM.front 1 rfl rfl).drop
  replace HM := (HM.front 3 rfl rfl).drop
  replace HM := HM.front 1 rfl rfl
  replace HM := HM.front 2 rfl rfl
  replace HM := HM.front 2 rfl rfl
  have hcb0 := HM.box_at 0 rfl
  replace HM := (HM.front 0 rfl rfl).drop
  have hR := Option.some.inj H
  subst hR
  exact at_retN rfl rfl Try.underlying85 rfl tsz85 rfl hcb0 ⟨_, rfl, _, _, rfl, HM⟩

def spec_l1At.l0 (x0 : List ByteArray) (x1 : ByteArray) : Nat → Int → Option (Int ⊕ Unit)
  | 0, _ => none
  | k + 1, a4762 => (bif (decide (a4762 < (x0.length : Int))) then (chk (idxOk a4762 x0.length) (bif (sEq (gt x0 a4762) x1) then some (.inl (wrap64 (a4762 + 1))) else spec_l1At.l0 x0 x1 k (wrap64 (a4762 + 1)))) else some (.inr ()))
theorem spec_l1At.l0_z (x0 : List ByteArray) (x1 : ByteArray) (a4762 : Int) : spec_l1At.l0 x0 x1 0 a4762 = none := rfl
theorem spec_l1At.l0_s (x0 : List ByteArray) (x1 : ByteArray) (k : Nat) (a4762 : Int) : spec_l1At.l0 x0 x1 (k + 1) a4762 = (bif (decide (a4762 < (x0.length : Int))) then (chk (idxOk a4762 x0.length) (bif (sEq (gt x0 a4762) x1) then some (.inl (wrap64 (a4762 + 1))) else spec_l1At.l0 x0 x1 k (wrap64 (a4762 + 1)))) else some (.inr ())) := rfl
def spec_l1At.f (k : Nat) (x0 : List ByteArray) (x1 : ByteArray) : Option Int := ((spec_l1At.l0 x0 x1 k 0).bind fun o4756 => thn o4756 (fun r => some r) (fun _ => some 0))
theorem spec_l1At.calls {k : Nat} {x0 : List ByteArray} {x1 : ByteArray} {p0 : Value} {w : World} (hp0 : RdS kStr w p0 x0) {r : Int} (H : spec_l1At.f k x0 x1 = some r) :
    Calls Try.prog 114 ([p0, .string x1] : List Value).toArray w (fun e w_ => ∃ v, e = .returned v ∧ v = (.int .i64 r) ∧ Mem w [] w_ []) := by
  have HM := Mem.start w
  refine calls_run (N := 20) Try.func114 rfl rfl rfl rfl ?_
  unfold spec_l1At.f at H
  refine run_seq ?_
  refine run_region rfl ?_
  refine ops_ex rfl (guard_none rfl) rfl rfl (ex_assign rfl rfl) ?_
  refine ops_nil ?_
  refine at_then ?_
  obtain ⟨o4756, ho4757, H⟩ := bind_some H
  refine run_mid (fun ρ_ w_ => Sum.inr () = o4756 ∧ ρ_ = [] ∧ Mem w [] w_ []) ?_ ?_
  · skip
    refine run_seq ?_
    refine run_region rfl ?_
    refine ops_ex rfl (guard_none rfl) rfl rfl (ex_assign rfl rfl) ?_
    refine ops_nil ?_
    refine at_then ?_
    refine run_block ?_
    refine run_loop (fun k_ ρ_ w_ => ∃ a4762 : Int, spec_l1At.l0 x0 x1 k_ a4762 = some o4756 ∧ ρ_ = [(0, p0), (1, .string x1), (5, .int .i64 a4762)] ∧ Mem w [] w_ []) k (ρ1 := [(0, p0), (1, .string x1), (5, .int .i64 0)]) ⟨_, ho4757, rfl, HM⟩ (Sub.cons rfl (Sub.cons rfl (Sub.cons rfl Sub.nil))) ?_
    clear HM ho4757
    rintro k4767 _ w4768 ⟨a4762, ho4757, rfl, HM⟩
    obtain _ | k4767 := k4767
    · exact nomatch ((spec_l1At.l0_z x0 x1 a4762).symm.trans ho4757)
    replace ho4757 := (spec_l1At.l0_s x0 x1 k4767 a4762).symm.trans ho4757
    refine run_seq ?_
    refine run_seq ?_
    refine run_region rfl ?_
    refine ops_ex rfl (guard_none rfl) rfl rfl (ex_move rfl rfl) ?_
    refine ops_ex rfl (guard_none rfl) rfl rfl (ex_move rfl rfl) ?_
    refine ops_ex rfl (guard_none rfl) rfl rfl (ex_len (d := kStr) (xs := x0) rfl rfl Try.underlying77 hp0) ?_
    refine ops_ex rfl (guard_none rfl) rfl rfl (ex_lss rfl rfl rfl) ?_
    refine ops_nil ?_
    refine at_then ?_
    refine run_cond (b := (decide (a4762 < (x0.length : Int)))) rfl (fun hb4769 => ?_) (fun hb4769 => ?_)
    · replace ho4757 := cond_t hb4769 ho4757
      refine run_skip ?_
      refine at_then ?_
      refine run_seq ?_
      refine run_block ?_
      refine run_seq ?_
      obtain ⟨e4770, ho4757⟩ := chk_some ho4757
      refine run_region rfl ?_
      refine ops_ex rfl (guard_none rfl) rfl rfl (ex_move rfl rfl) ?_
      refine ops_ex rfl (guard_none rfl) rfl rfl (ex_move rfl rfl) ?_
      have hc4771 : CellsAt _ (sb p0) (so p0 + (a4762).toNat * 1) [(.string (gt x0 a4762))] := rd_plain hp0 e4770
      refine ops_ex rfl (guard_none rfl) rfl rfl (ex_indexAddr (d := kStr) rfl rfl rfl Try.underlying77 tsz9 hp0 (idx_lo e4770) (idx_hi e4770)) ?_
      refine ops_ex rfl (guard_none rfl) rfl rfl (ex_load1 rfl rfl Try.underlying9 rfl ((HM.at_ hc4771) 0 _ rfl)) ?_
      refine ops_ex rfl (guard_none rfl) rfl rfl (ex_move rfl rfl) ?_
      refine ops_ex rfl (guard_none rfl) rfl rfl (ex_seql rfl rfl rfl) ?_
      refine ops_nil ?_
      refine at_then ?_
      refine run_cond (b := (sEq (gt x0 a4762) x1)) rfl (fun hb4772 => ?_) (fun hb4772 => ?_)
      · replace ho4757 := cond_t hb4772 ho4757
        refine run_seq ?_
        refine run_region rfl ?_
        refine ops_ex rfl (guard_none rfl) rfl rfl (ex_move rfl rfl) ?_
        refine ops_ex rfl (guard_none rfl) rfl rfl (ex_add rfl rfl rfl) ?_
        refine ops_ex rfl (guard_none rfl) rfl rfl (ex_assign rfl rfl) ?_
        refine ops_nil ?_
        refine at_then ?_
        refine run_ret ?_
        refine at_block_ret ?_
        refine at_then_ret ?_
        refine at_then_ret ?_
        refine at_block_ret ?_
        refine at_then_ret ?_
        have hR := Option.some.inj ho4757
        subst hR
        have hT := thn_inl H
        have hR := Option.some.inj hT
        subst hR
        exact at_ret1 rfl rfl ⟨_, rfl, rfl, HM⟩
      · replace ho4757 := cond_f hb4772 ho4757
        refine run_skip ?_
        refine at_block ?_
        refine at_then ?_
        refine run_region rfl ?_
        refine ops_ex rfl (guard_none rfl) rfl rfl (ex_move rfl rfl) ?_
        refine ops_ex rfl (guard_none rfl) rfl rfl (ex_add rfl rfl rfl) ?_
        refine ops_ex rfl (guard_none rfl) rfl rfl (ex_assign rfl rfl) ?_
        refine ops_nil ?_
        exact at_again k4767 (ρ1 := [(0, p0), (1, .string x1), (5, .int .i64 (wrap64 (a4762 + 1)))]) (Nat.lt_succ_self _) ⟨_, ho4757, rfl, HM⟩ (Sub.cons rfl (Sub.cons rfl (Sub.cons rfl Sub.nil)))
    · replace ho4757 := cond_f hb4769 ho4757
      refine run_exit ?_
      refine at_then_exit ?_
      refine at_then_exit ?_
      refine at_block_exit ?_
      exact at_mid (ρ' := []) ⟨(Option.some.inj ho4757), rfl, HM⟩ Sub.nil
  · rintro _ w4773 ⟨rfl, rfl, HM⟩
    replace H := (thn_inr H)
    refine run_seq ?_
    refine run_region rfl ?_
    refine ops_ex rfl (guard_none rfl) rfl rfl (ex_assign rfl rfl) ?_
    refine ops_nil ?_
    refine at_then ?_
    refine run_ret ?_
    have hR := Option.some.inj H
    subst hR
    exact at_ret1 rfl rfl ⟨_, rfl, rfl, HM⟩

def spec_l1Signed.l0 (x0 : List Sign) (x1 : Sign) : Nat → Int → Option (Bool ⊕ Unit)
  | 0, _ => none
  | k + 1, a4886 => (bif (decide (a4886 < (x0.length : Int))) then (chk (idxOk a4886 x0.length) (bif ((((gt x0 a4886).fKey) == x1.fKey) && (((gt x0 a4886).fId) == x1.fId)) then some (.inl true) else spec_l1Signed.l0 x0 x1 k (wrap64 (a4886 + 1)))) else some (.inr ()))
theorem spec_l1Signed.l0_z (x0 : List Sign) (x1 : Sign) (a4886 : Int) : spec_l1Signed.l0 x0 x1 0 a4886 = none := rfl
theorem spec_l1Signed.l0_s (x0 : List Sign) (x1 : Sign) (k : Nat) (a4886 : Int) : spec_l1Signed.l0 x0 x1 (k + 1) a4886 = (bif (decide (a4886 < (x0.length : Int))) then (chk (idxOk a4886 x0.length) (bif ((((gt x0 a4886).fKey) == x1.fKey) && (((gt x0 a4886).fId) == x1.fId)) then some (.inl true) else spec_l1Signed.l0 x0 x1 k (wrap64 (a4886 + 1)))) else some (.inr ())) := rfl
def spec_l1Signed.f (k : Nat) (x0 : List Sign) (x1 : Sign) : Option Bool := ((spec_l1Signed.l0 x0 x1 k 0).bind fun o4880 => thn o4880 (fun r => some r) (fun _ => some false))
theorem spec_l1Signed.calls {k : Nat} {x0 : List Sign} {x1 : Sign} {p0 : Value} {w : World} (hp0 : RdS kSign w p0 x0) {r : Bool} (H : spec_l1Signed.f k x0 x1 = some r) :
    Calls Try.prog 115 ([p0, .agg #[(.int .i64 x1.fKey), (.int .i64 x1.fId)]] : List Value).toArray w (fun e w_ => ∃ v, e = .returned v ∧ v = (.bool r) ∧ Mem w [] w_ []) := by
  have HM := Mem.start w
  refine calls_run (N := 18) Try.func115 rfl rfl rfl rfl ?_
  unfold spec_l1Signed.f at H
  refine run_seq ?_
  refine run_region rfl ?_
  refine ops_does rfl (guard_none rfl) rfl rfl (does_box (cs := [.int .i64 x1.fKey, .int .i64 x1.fId]) rfl rfl rfl HM) ?_
  rintro _ w4866 ⟨b4863, rfl, HM⟩
  refine ops_ex rfl (guard_none rfl) rfl rfl (ex_assign rfl rfl) ?_
  refine ops_nil ?_
  refine at_then ?_
  obtain ⟨o4880, ho4881, H⟩ := bind_some H
  refine run_mid (fun ρ_ w_ => Sum.inr () = o4880 ∧ ρ_ = [] ∧ Mem w [] w_ []) ?_ ?_
  · skip
    refine run_seq ?_
    refine run_region rfl ?_
    refine ops_ex rfl (guard_none rfl) rfl rfl (ex_assign rfl rfl) ?_
    refine ops_nil ?_
    refine at_then ?_
    refine run_block ?_
    refine run_loop (fun k_ ρ_ w_ => ∃ a4886 : Int, spec_l1Signed.l0 x0 x1 k_ a4886 = some o4880 ∧ ρ_ = [(0, p0), (3, .pointer (some ⟨b4863, 0, none⟩)), (5, .int .i64 a4886)] ∧ Mem w [] w_ [box b4863 134 [.int .i64 x1.fKey, .int .i64 x1.fId]]) k (ρ1 := [(0, p0), (3, .pointer (some ⟨b4863, 0, none⟩)), (5, .int .i64 0)]) ⟨_, ho4881, rfl, HM⟩ (Sub.cons rfl (Sub.cons rfl (Sub.cons rfl Sub.nil))) ?_
    clear HM ho4881
    rintro k4891 _ w4892 ⟨a4886, ho4881, rfl, HM⟩
    obtain _ | k4891 := k4891
    · exact nomatch ((spec_l1Signed.l0_z x0 x1 a4886).symm.trans ho4881)
    replace ho4881 := (spec_l1Signed.l0_s x0 x1 k4891 a4886).symm.trans ho4881
    refine run_seq ?_
    refine run_seq ?_
    refine run_region rfl ?_
    refine ops_ex rfl (guard_none rfl) rfl rfl (ex_move rfl rfl) ?_
    refine ops_ex rfl (guard_none rfl) rfl rfl (ex_move rfl rfl) ?_
    refine ops_ex rfl (guard_none rfl) rfl rfl (ex_len (d := kSign) (xs := x0) rfl rfl Try.underlying83 hp0) ?_
    refine ops_ex rfl (guard_none rfl) rfl rfl (ex_lss rfl rfl rfl) ?_
    refine ops_nil ?_
    refine at_then ?_
    refine run_cond (b := (decide (a4886 < (x0.length : Int)))) rfl (fun hb4893 => ?_) (fun hb4893 => ?_)
    · replace ho4881 := cond_t hb4893 ho4881
      refine run_skip ?_
      refine at_then ?_
      refine run_seq ?_
      refine run_block ?_
      refine run_seq ?_
      obtain ⟨e4894, ho4881⟩ := chk_some ho4881
      refine run_draw (fun w_ => Mem w [] w_ [box b4863 134 [.int .i64 x1.fKey, .int .i64 x1.fId]]) mixed rfl rfl ?_
      replace HM := HM.grow (fr_drew _)
      have hS := Mem.suf (M := []) HM
      refine drw_take (i := 0) (l' := #[true, false, false, false, false, false]) rfl (guard_none rfl) rfl rfl (by kernel_rfl) (fun w_ hS_ => (ex_move rfl rfl)) hS ?_
      refine drw_take (i := 1) (l' := #[true, true, false, false, false, false]) rfl (guard_none rfl) rfl rfl (by kernel_rfl) (fun w_ hS_ => (ex_move rfl rfl)) hS ?_
      have hc4895 : CellsAt _ (sb p0) (so p0 + (a4886).toNat * 2) [(.int .i64 ((gt x0 a4886).fKey)), (.int .i64 ((gt x0 a4886).fId))] := rd_plain hp0 e4894
      refine drw_take (i := 2) (l' := #[true, true, true, false, false, false]) rfl (guard_none rfl) rfl rfl (by kernel_rfl) (fun w_ hS_ => (ex_indexAddr (d := kSign) rfl rfl rfl Try.underlying83 tsz134 hp0 (idx_lo e4894) (idx_hi e4894))) hS ?_
      refine drw_take (i := 3) (l' := #[true, true, true, true, false, false]) rfl (guard_none rfl) rfl rfl (by kernel_rfl) (fun w_ hS_ => (ex_loadN (cs := [(.int .i64 ((gt x0 a4886).fKey)), (.int .i64 ((gt x0 a4886).fId))]) rfl rfl Try.underlying134 rfl tsz134 rfl ((hS_.at_ hc4895).sub 0 2 rfl))) hS ?_
      refine drw_take (i := 4) (l' := #[true, true, true, true, true, false]) rfl (guard_none rfl) rfl rfl (by kernel_rfl) (fun w_ hS_ => (ex_loadN (cs := [(.int .i64 x1.fKey), (.int .i64 x1.fId)]) rfl rfl Try.underlying134 rfl tsz134 rfl ((hS_.box_at 0 rfl).sub 0 2 rfl))) hS ?_
      refine drw_take (i := 5) (l' := #[true, true, true, true, true, true]) rfl (guard_none rfl) rfl rfl (by kernel_rfl) (fun w_ hS_ => (ex_aeql rfl rfl rfl (by kernel_rfl) (eqs134 _ _ _ _ _))) hS ?_
      refine drw_done (by kernel_rfl) ?_
      refine at_then ?_
      refine run_cond (b := ((((gt x0 a4886).fKey) == x1.fKey) && (((gt x0 a4886).fId) == x1.fId))) rfl (fun hb4896 => ?_) (fun hb4896 => ?_)
      · replace ho4881 := cond_t hb4896 ho4881
        refine run_seq ?_
        refine run_region rfl ?_
        refine ops_ex rfl (guard_none rfl) rfl rfl (ex_assign rfl rfl) ?_
        refine ops_nil ?_
        refine at_then ?_
        refine run_ret ?_
        refine at_block_ret ?_
        refine at_then_ret ?_
        refine at_then_ret ?_
        refine at_block_ret ?_
        refine at_then_ret ?_
        replace HM := (HM.front 0 rfl rfl).drop
        have hR := Option.some.inj ho4881
        subst hR
        have hT := thn_inl H
        have hR := Option.some.inj hT
        subst hR
        exact at_ret1 rfl rfl ⟨_, rfl, rfl, HM⟩
      · replace ho4881 := cond_f hb4896 ho4881
        refine run_skip ?_
        refine at_block ?_
        refine at_then ?_
        refine run_region rfl ?_
        refine ops_ex rfl (guard_none rfl) rfl rfl (ex_move rfl rfl) ?_
        refine ops_ex rfl (guard_none rfl) rfl rfl (ex_add rfl rfl rfl) ?_
        refine ops_ex rfl (guard_none rfl) rfl rfl (ex_assign rfl rfl) ?_
        refine ops_nil ?_
        exact at_again k4891 (ρ1 := [(0, p0), (3, .pointer (some ⟨b4863, 0, none⟩)), (5, .int .i64 (wrap64 (a4886 + 1)))]) (Nat.lt_succ_self _) ⟨_, ho4881, rfl, HM⟩ (Sub.cons rfl (Sub.cons rfl (Sub.cons rfl Sub.nil)))
    · replace ho4881 := cond_f hb4893 ho4881
      refine run_exit ?_
      refine at_then_exit ?_
      refine at_then_exit ?_
      refine at_block_exit ?_
      replace HM := (HM.front 0 rfl rfl).drop
      exact at_mid (ρ' := []) ⟨(Option.some.inj ho4881), rfl, HM⟩ Sub.nil
  · rintro _ w4897 ⟨rfl, rfl, HM⟩
    replace H := (thn_inr H)
    refine run_seq ?_
    refine run_region rfl ?_
    refine ops_ex rfl (guard_none rfl) rfl rfl (ex_assign rfl rfl) ?_
    refine ops_nil ?_
    refine at_then ?_
    refine run_ret ?_
    have hR := Option.some.inj H
    subst hR
    exact at_ret1 rfl rfl ⟨_, rfl, rfl, HM⟩

def spec_l1Fault.l0 (x0 : Ledger) : Nat → Int → Option (Int ⊕ Unit)
  | 0, _ => none
  | k + 1, a5048 => (bif (decide (a5048 < (x0.fTexts.length : Int))) then (chk (idxOk a5048 x0.fTexts.length) (chk (!(!(decide (((gt x0.fTexts a5048).size : Int) < 1))) || (idxOk a5048 x0.fTexts.length)) (bif ((decide (((gt x0.fTexts a5048).size : Int) < 1)) || (decide (300 < ((gt x0.fTexts a5048).size : Int)))) then some (.inl 2) else (chk (cutOk a5048 x0.fTexts.length) (chk (idxOk a5048 x0.fTexts.length) ((spec_l1At.f k (x0.fTexts.take (a5048).toNat) (gt x0.fTexts a5048)).bind fun t5091 => (bif (decide (0 < t5091)) then some (.inl 7) else spec_l1Fault.l0 x0 k (wrap64 (a5048 + 1))))))))) else some (.inr ()))
theorem spec_l1Fault.l0_z (x0 : Ledger) (a5048 : Int) : spec_l1Fault.l0 x0 0 a5048 = none := rfl
theorem spec_l1Fault.l0_s (x0 : Ledger) (k : Nat) (a5048 : Int) : spec_l1Fault.l0 x0 (k + 1) a5048 = (bif (decide (a5048 < (x0.fTexts.length : Int))) then (chk (idxOk a5048 x0.fTexts.length) (chk (!(!(decide (((gt x0.fTexts a5048).size : Int) < 1))) || (idxOk a5048 x0.fTexts.length)) (bif ((decide (((gt x0.fTexts a5048).size : Int) < 1)) || (decide (300 < ((gt x0.fTexts a5048).size : Int)))) then some (.inl 2) else (chk (cutOk a5048 x0.fTexts.length) (chk (idxOk a5048 x0.fTexts.length) ((spec_l1At.f k (x0.fTexts.take (a5048).toNat) (gt x0.fTexts a5048)).bind fun t5091 => (bif (decide (0 < t5091)) then some (.inl 7) else spec_l1Fault.l0 x0 k (wrap64 (a5048 + 1))))))))) else some (.inr ())) := rfl
def spec_l1Fault.l1 (x0 : Ledger) : Nat → Int → Option (Int ⊕ Unit)
  | 0, _ => none
  | k + 1, a5211 => (bif (decide (a5211 < (x0.fSigns.length : Int))) then (chk (idxOk a5211 x0.fSigns.length) ((spec_l1Key.f k ((gt x0.fSigns a5211).fKey)).bind fun t5254 => (chk (!(!(!t5254)) || (idxOk a5211 x0.fSigns.length)) ((bif (!(!t5254)) then spec_l1In.f k ((gt x0.fSigns a5211).fId) 1 (x0.fTexts.length : Int) else some default).bind fun t5258 => (bif ((!t5254) || (!t5258)) then some (.inl 3) else (chk (cutOk a5211 x0.fSigns.length) (chk (idxOk a5211 x0.fSigns.length) ((spec_l1Signed.f k (x0.fSigns.take (a5211).toNat) (gt x0.fSigns a5211)).bind fun t5272 => (bif t5272 then some (.inl 7) else spec_l1Fault.l1 x0 k (wrap64 (a5211 + 1))))))))))) else some (.inr ()))
theorem spec_l1Fault.l1_z (x0 : Ledger) (a5211 : Int) : spec_l1Fault.l1 x0 0 a5211 = none := rfl
theorem spec_l1Fault.l1_s (x0 : Ledger) (k : Nat) (a5211 : Int) : spec_l1Fault.l1 x0 (k + 1) a5211 = (bif (decide (a5211 < (x0.fSigns.length : Int))) then (chk (idxOk a5211 x0.fSigns.length) ((spec_l1Key.f k ((gt x0.fSigns a5211).fKey)).bind fun t5254 => (chk (!(!(!t5254)) || (idxOk a5211 x0.fSigns.length)) ((bif (!(!t5254)) then spec_l1In.f k ((gt x0.fSigns a5211).fId) 1 (x0.fTexts.length : Int) else some default).bind fun t5258 => (bif ((!t5254) || (!t5258)) then some (.inl 3) else (chk (cutOk a5211 x0.fSigns.length) (chk (idxOk a5211 x0.fSigns.length) ((spec_l1Signed.f k (x0.fSigns.take (a5211).toNat) (gt x0.fSigns a5211)).bind fun t5272 => (bif t5272 then some (.inl 7) else spec_l1Fault.l1 x0 k (wrap64 (a5211 + 1))))))))))) else some (.inr ())) := rfl
def spec_l1Fault.f (k : Nat) (x0 : Ledger) : Option Int := (bif ((decide (60 < (x0.fTexts.length : Int))) || (decide (120 < (x0.fSigns.length : Int)))) then some 2 else ((spec_l1Fault.l0 x0 k 0).bind fun o5026 => thn o5026 (fun r => some r) (fun _ => ((spec_l1Fault.l1 x0 k 0).bind fun o5181 => thn o5181 (fun r => some r) (fun _ => some 0)))))
theorem spec_l1Fault.calls {k : Nat} {x0 : Ledger} {b0 f0 : Nat} {p0_0 : Value} {p0_1 : Value} {w : World} (hc0 : CellsAt w b0 f0 [p0_0, p0_1]) (hp0_0 : RdS kStr w p0_0 x0.fTexts) (hp0_1 : RdS kSign w p0_1 x0.fSigns) {r : Int} (H : spec_l1Fault.f k x0 = some r) :
    Calls Try.prog 94 ([.pointer (some ⟨b0, f0, none⟩)] : List Value).toArray w (fun e w_ => ∃ v, e = .returned v ∧ v = (.int .i64 r) ∧ Mem w [] w_ []) := by
  have HM := Mem.start w
  refine calls_run (N := 113) Try.func94 rfl rfl rfl rfl ?_
  unfold spec_l1Fault.f at H
  refine run_seq ?_
  refine run_region rfl ?_
  refine ops_ex rfl (guard_none rfl) rfl rfl (ex_assign rfl rfl) ?_
  refine ops_nil ?_
  refine at_then ?_
  refine run_seq ?_
  refine run_seq ?_
  refine run_meet (fun ρ_ w_ => ρ_ = [(0, .pointer (some ⟨b0, f0, none⟩)), (18, .bool ((decide (60 < (x0.fTexts.length : Int))) || (decide (120 < (x0.fSigns.length : Int)))))] ∧ Mem w [] w_ []) ?_ ?_
  · skip
    refine run_region rfl ?_
    refine ops_ex rfl (guard_none rfl) rfl rfl (ex_move rfl rfl) ?_
    refine ops_ex rfl (guard_none rfl) rfl rfl (ex_nilCheck rfl rfl) ?_
    refine ops_ex rfl (guard_none rfl) rfl rfl (ex_fieldAddr (off' := f0) rfl rfl Try.underlying85 rfl tsz77 rfl) ?_
    refine ops_ex rfl (guard_none rfl) rfl rfl (ex_load1 rfl rfl Try.underlying77 rfl ((HM.at_ hc0) 0 _ rfl)) ?_
    refine ops_ex rfl (guard_none rfl) rfl rfl (ex_len (d := kStr) (xs := x0.fTexts) rfl rfl Try.underlying77 hp0_0) ?_
    refine ops_ex rfl (guard_none rfl) rfl rfl (ex_gtr rfl rfl rfl) ?_
    refine ops_ex rfl (guard_none rfl) rfl rfl (ex_move rfl rfl) ?_
    refine bool_cases (decide (60 < (x0.fTexts.length : Int))) (fun hg4961 => ?_) (fun hg4961 => ?_)
    · skip
      refine ops_off rfl (guard_off rfl rfl rfl hg4961) rfl rfl ?_
      refine ops_off rfl (guard_off rfl rfl rfl hg4961) rfl rfl ?_
      refine ops_off rfl (guard_off rfl rfl rfl hg4961) rfl rfl ?_
      refine ops_off rfl (guard_off rfl rfl rfl hg4961) rfl rfl ?_
      refine ops_off rfl (guard_off rfl rfl rfl hg4961) rfl rfl ?_
      refine ops_off rfl (guard_off rfl rfl rfl hg4961) rfl rfl ?_
      have hg4962 : ((decide (60 < (x0.fTexts.length : Int))) || (decide (120 < (x0.fSigns.length : Int)))) = true := by simp only [hg4961, Bool.and_true, Bool.true_and, Bool.and_false, Bool.false_and, Bool.or_true, Bool.true_or, Bool.or_false, Bool.false_or, Bool.not_true, Bool.not_false, Bool.not_not]
      refine ops_ex (v := .bool ((decide (60 < (x0.fTexts.length : Int))) || (decide (120 < (x0.fSigns.length : Int))))) rfl (guard_none rfl) rfl rfl (ex_por_t rfl rfl hg4961) ?_
      refine ops_nil ?_
      exact at_meet [(0, .pointer (some ⟨b0, f0, none⟩)), (18, .bool ((decide (60 < (x0.fTexts.length : Int))) || (decide (120 < (x0.fSigns.length : Int)))))] ⟨rfl, HM⟩ (Sub.cons rfl (Sub.cons rfl Sub.nil))
    · skip
      refine ops_ex rfl (guard_on rfl rfl rfl hg4961) rfl rfl (ex_move rfl rfl) ?_
      refine ops_ex rfl (guard_on rfl rfl rfl hg4961) rfl rfl (ex_nilCheck rfl rfl) ?_
      refine ops_ex rfl (guard_on rfl rfl rfl hg4961) rfl rfl (ex_fieldAddr (off' := f0 + 1) rfl rfl Try.underlying85 rfl tsz83 rfl) ?_
      refine ops_ex rfl (guard_on rfl rfl rfl hg4961) rfl rfl (ex_load1 rfl rfl Try.underlying83 rfl ((HM.at_ hc0) 1 _ rfl)) ?_
      refine ops_ex rfl (guard_on rfl rfl rfl hg4961) rfl rfl (ex_len (d := kSign) (xs := x0.fSigns) rfl rfl Try.underlying83 hp0_1) ?_
      refine ops_ex rfl (guard_on rfl rfl rfl hg4961) rfl rfl (ex_gtr rfl rfl rfl) ?_
      refine ops_ex (v := .bool ((decide (60 < (x0.fTexts.length : Int))) || (decide (120 < (x0.fSigns.length : Int))))) rfl (guard_none rfl) rfl rfl (ex_por_f rfl rfl hg4961 rfl) ?_
      refine ops_nil ?_
      exact at_meet [(0, .pointer (some ⟨b0, f0, none⟩)), (18, .bool ((decide (60 < (x0.fTexts.length : Int))) || (decide (120 < (x0.fSigns.length : Int)))))] ⟨rfl, HM⟩ (Sub.cons rfl (Sub.cons rfl Sub.nil))
  · rintro _ w4963 ⟨rfl, HM⟩
    refine at_then ?_
    refine run_cond (b := ((decide (60 < (x0.fTexts.length : Int))) || (decide (120 < (x0.fSigns.length : Int))))) rfl (fun hb4964 => ?_) (fun hb4964 => ?_)
    · replace H := cond_t hb4964 H
      refine run_seq ?_
      refine run_region rfl ?_
      refine ops_ex rfl (guard_none rfl) rfl rfl (ex_assign rfl rfl) ?_
      refine ops_nil ?_
      refine at_then ?_
      refine run_ret ?_
      refine at_then_ret ?_
      have hR := Option.some.inj H
      subst hR
      exact at_ret1 rfl rfl ⟨_, rfl, rfl, HM⟩
    · replace H := cond_f hb4964 H
      refine run_skip ?_
      refine at_then ?_
      obtain ⟨o5026, ho5027, H⟩ := bind_some H
      refine run_mid (fun ρ_ w_ => Sum.inr () = o5026 ∧ ρ_ = [(0, .pointer (some ⟨b0, f0, none⟩))] ∧ Mem w [] w_ []) ?_ ?_
      · skip
        refine run_seq ?_
        refine run_region rfl ?_
        refine ops_ex rfl (guard_none rfl) rfl rfl (ex_assign rfl rfl) ?_
        refine ops_nil ?_
        refine at_then ?_
        refine run_block ?_
        refine run_loop (fun k_ ρ_ w_ => ∃ a5048 : Int, spec_l1Fault.l0 x0 k_ a5048 = some o5026 ∧ ρ_ = [(0, .pointer (some ⟨b0, f0, none⟩)), (3, .int .i64 a5048)] ∧ Mem w [] w_ []) k (ρ1 := [(0, .pointer (some ⟨b0, f0, none⟩)), (3, .int .i64 0)]) ⟨_, ho5027, rfl, HM⟩ (Sub.cons rfl (Sub.cons rfl Sub.nil)) ?_
        clear HM ho5027
        rintro k5069 _ w5070 ⟨a5048, ho5027, rfl, HM⟩
        obtain _ | k5069 := k5069
        · exact nomatch ((spec_l1Fault.l0_z x0 a5048).symm.trans ho5027)
        replace ho5027 := (spec_l1Fault.l0_s x0 k5069 a5048).symm.trans ho5027
        refine run_seq ?_
        refine run_seq ?_
        refine run_region rfl ?_
        refine ops_ex rfl (guard_none rfl) rfl rfl (ex_move rfl rfl) ?_
        refine ops_ex rfl (guard_none rfl) rfl rfl (ex_move rfl rfl) ?_
        refine ops_ex rfl (guard_none rfl) rfl rfl (ex_nilCheck rfl rfl) ?_
        refine ops_ex rfl (guard_none rfl) rfl rfl (ex_fieldAddr (off' := f0) rfl rfl Try.underlying85 rfl tsz77 rfl) ?_
        refine ops_ex rfl (guard_none rfl) rfl rfl (ex_load1 rfl rfl Try.underlying77 rfl ((HM.at_ hc0) 0 _ rfl)) ?_
        refine ops_ex rfl (guard_none rfl) rfl rfl (ex_len (d := kStr) (xs := x0.fTexts) rfl rfl Try.underlying77 hp0_0) ?_
        refine ops_ex rfl (guard_none rfl) rfl rfl (ex_lss rfl rfl rfl) ?_
        refine ops_nil ?_
        refine at_then ?_
        refine run_cond (b := (decide (a5048 < (x0.fTexts.length : Int)))) rfl (fun hb5071 => ?_) (fun hb5071 => ?_)
        · replace ho5027 := cond_t hb5071 ho5027
          refine run_skip ?_
          refine at_then ?_
          refine run_seq ?_
          refine run_block ?_
          refine run_seq ?_
          refine run_seq ?_
          obtain ⟨e5077, ho5027⟩ := chk_some ho5027
          obtain ⟨e5079, ho5027⟩ := chk_some ho5027
          refine run_meet (fun ρ_ w_ => ρ_ = [(0, .pointer (some ⟨b0, f0, none⟩)), (3, .int .i64 a5048), (47, .bool ((decide (((gt x0.fTexts a5048).size : Int) < 1)) || (decide (300 < ((gt x0.fTexts a5048).size : Int)))))] ∧ Mem w [] w_ []) ?_ ?_
          · skip
            refine run_region rfl ?_
            refine ops_ex rfl (guard_none rfl) rfl rfl (ex_move rfl rfl) ?_
            refine ops_ex rfl (guard_none rfl) rfl rfl (ex_nilCheck rfl rfl) ?_
            refine ops_ex rfl (guard_none rfl) rfl rfl (ex_fieldAddr (off' := f0) rfl rfl Try.underlying85 rfl tsz77 rfl) ?_
            refine ops_ex rfl (guard_none rfl) rfl rfl (ex_load1 rfl rfl Try.underlying77 rfl ((HM.at_ hc0) 0 _ rfl)) ?_
            refine ops_ex rfl (guard_none rfl) rfl rfl (ex_move rfl rfl) ?_
            have hc5078 : CellsAt _ (sb p0_0) (so p0_0 + (a5048).toNat * 1) [(.string (gt x0.fTexts a5048))] := rd_plain hp0_0 e5077
            refine ops_ex rfl (guard_none rfl) rfl rfl (ex_indexAddr (d := kStr) rfl rfl rfl Try.underlying77 tsz9 hp0_0 (idx_lo e5077) (idx_hi e5077)) ?_
            refine ops_ex rfl (guard_none rfl) rfl rfl (ex_load1 rfl rfl Try.underlying9 rfl ((HM.at_ hc5078) 0 _ rfl)) ?_
            refine ops_ex rfl (guard_none rfl) rfl rfl (ex_strlen rfl rfl Try.underlying9) ?_
            refine ops_ex rfl (guard_none rfl) rfl rfl (ex_lss rfl rfl rfl) ?_
            refine ops_ex rfl (guard_none rfl) rfl rfl (ex_move rfl rfl) ?_
            refine bool_cases (decide (((gt x0.fTexts a5048).size : Int) < 1)) (fun hg5081 => ?_) (fun hg5081 => ?_)
            · skip
              refine ops_off rfl (guard_off rfl rfl rfl hg5081) rfl rfl ?_
              refine ops_off rfl (guard_off rfl rfl rfl hg5081) rfl rfl ?_
              refine ops_off rfl (guard_off rfl rfl rfl hg5081) rfl rfl ?_
              refine ops_off rfl (guard_off rfl rfl rfl hg5081) rfl rfl ?_
              refine ops_off rfl (guard_off rfl rfl rfl hg5081) rfl rfl ?_
              refine ops_off rfl (guard_off rfl rfl rfl hg5081) rfl rfl ?_
              refine ops_off rfl (guard_off rfl rfl rfl hg5081) rfl rfl ?_
              refine ops_off rfl (guard_off rfl rfl rfl hg5081) rfl rfl ?_
              refine ops_off rfl (guard_off rfl rfl rfl hg5081) rfl rfl ?_
              have hg5082 : ((decide (((gt x0.fTexts a5048).size : Int) < 1)) || (decide (300 < ((gt x0.fTexts a5048).size : Int)))) = true := by simp only [hg5081, Bool.and_true, Bool.true_and, Bool.and_false, Bool.false_and, Bool.or_true, Bool.true_or, Bool.or_false, Bool.false_or, Bool.not_true, Bool.not_false, Bool.not_not]
              refine ops_ex (v := .bool ((decide (((gt x0.fTexts a5048).size : Int) < 1)) || (decide (300 < ((gt x0.fTexts a5048).size : Int))))) rfl (guard_none rfl) rfl rfl (ex_por_t rfl rfl hg5081) ?_
              refine ops_nil ?_
              exact at_meet [(0, .pointer (some ⟨b0, f0, none⟩)), (3, .int .i64 a5048), (47, .bool ((decide (((gt x0.fTexts a5048).size : Int) < 1)) || (decide (300 < ((gt x0.fTexts a5048).size : Int)))))] ⟨rfl, HM⟩ (Sub.cons rfl (Sub.cons rfl (Sub.cons rfl Sub.nil)))
            · skip
              refine ops_ex rfl (guard_on rfl rfl rfl hg5081) rfl rfl (ex_move rfl rfl) ?_
              refine ops_ex rfl (guard_on rfl rfl rfl hg5081) rfl rfl (ex_nilCheck rfl rfl) ?_
              refine ops_ex rfl (guard_on rfl rfl rfl hg5081) rfl rfl (ex_fieldAddr (off' := f0) rfl rfl Try.underlying85 rfl tsz77 rfl) ?_
              refine ops_ex rfl (guard_on rfl rfl rfl hg5081) rfl rfl (ex_load1 rfl rfl Try.underlying77 rfl ((HM.at_ hc0) 0 _ rfl)) ?_
              refine ops_ex rfl (guard_on rfl rfl rfl hg5081) rfl rfl (ex_move rfl rfl) ?_
              have hc5080 : CellsAt _ (sb p0_0) (so p0_0 + (a5048).toNat * 1) [(.string (gt x0.fTexts a5048))] := rd_plain hp0_0 (or_t e5079 (not_mk hg5081))
              refine ops_ex rfl (guard_on rfl rfl rfl hg5081) rfl rfl (ex_indexAddr (d := kStr) rfl rfl rfl Try.underlying77 tsz9 hp0_0 (idx_lo (or_t e5079 (not_mk hg5081))) (idx_hi (or_t e5079 (not_mk hg5081)))) ?_
              refine ops_ex rfl (guard_on rfl rfl rfl hg5081) rfl rfl (ex_load1 rfl rfl Try.underlying9 rfl ((HM.at_ hc5080) 0 _ rfl)) ?_
              refine ops_ex rfl (guard_on rfl rfl rfl hg5081) rfl rfl (ex_strlen rfl rfl Try.underlying9) ?_
              refine ops_ex rfl (guard_on rfl rfl rfl hg5081) rfl rfl (ex_gtr rfl rfl rfl) ?_
              refine ops_ex (v := .bool ((decide (((gt x0.fTexts a5048).size : Int) < 1)) || (decide (300 < ((gt x0.fTexts a5048).size : Int))))) rfl (guard_none rfl) rfl rfl (ex_por_f rfl rfl hg5081 rfl) ?_
              refine ops_nil ?_
              exact at_meet [(0, .pointer (some ⟨b0, f0, none⟩)), (3, .int .i64 a5048), (47, .bool ((decide (((gt x0.fTexts a5048).size : Int) < 1)) || (decide (300 < ((gt x0.fTexts a5048).size : Int)))))] ⟨rfl, HM⟩ (Sub.cons rfl (Sub.cons rfl (Sub.cons rfl Sub.nil)))
          · rintro _ w5083 ⟨rfl, HM⟩
            refine at_then ?_
            refine run_cond (b := ((decide (((gt x0.fTexts a5048).size : Int) < 1)) || (decide (300 < ((gt x0.fTexts a5048).size : Int))))) rfl (fun hb5084 => ?_) (fun hb5084 => ?_)
            · replace ho5027 := cond_t hb5084 ho5027
              refine run_seq ?_
              refine run_region rfl ?_
              refine ops_ex rfl (guard_none rfl) rfl rfl (ex_assign rfl rfl) ?_
              refine ops_nil ?_
              refine at_then ?_
              refine run_ret ?_
              refine at_then_ret ?_
              refine at_block_ret ?_
              refine at_then_ret ?_
              refine at_then_ret ?_
              refine at_block_ret ?_
              refine at_then_ret ?_
              have hR := Option.some.inj ho5027
              subst hR
              have hT := thn_inl H
              have hR := Option.some.inj hT
              subst hR
              exact at_ret1 rfl rfl ⟨_, rfl, rfl, HM⟩
            · replace ho5027 := cond_f hb5084 ho5027
              refine run_skip ?_
              refine at_then ?_
              refine run_seq ?_
              obtain ⟨e5085, ho5027⟩ := chk_some ho5027
              obtain ⟨e5089, ho5027⟩ := chk_some ho5027
              obtain ⟨t5091, h5092, ho5027⟩ := bind_some ho5027
              refine run_draw (fun w_ => Mem w [] w_ []) mixed rfl rfl ?_
              replace HM := HM.grow (fr_drew _)
              have hS := Mem.suf (M := []) HM
              refine drw_take (i := 0) (l' := #[true, false, false, false, false, false, false, false, false, false, false, false, false, false, false]) rfl (guard_none rfl) rfl rfl (by kernel_rfl) (fun w_ hS_ => (ex_move rfl rfl)) hS ?_
              refine drw_take (i := 1) (l' := #[true, true, false, false, false, false, false, false, false, false, false, false, false, false, false]) rfl (guard_none rfl) rfl rfl (by kernel_rfl) (fun w_ hS_ => (ex_nilCheck rfl rfl)) hS ?_
              refine drw_take (i := 2) (l' := #[true, true, true, false, false, false, false, false, false, false, false, false, false, false, false]) rfl (guard_none rfl) rfl rfl (by kernel_rfl) (fun w_ hS_ => (ex_fieldAddr (off' := f0) rfl rfl Try.underlying85 rfl tsz77 rfl)) hS ?_
              refine drw_take (i := 3) (l' := #[true, true, true, true, false, false, false, false, false, false, false, false, false, false, false]) rfl (guard_none rfl) rfl rfl (by kernel_rfl) (fun w_ hS_ => (ex_load1 rfl rfl Try.underlying77 rfl ((hS_.at_ hc0) 0 _ rfl))) hS ?_
              refine drw_take (i := 4) (l' := #[true, true, true, true, true, false, false, false, false, false, false, false, false, false, false]) rfl (guard_none rfl) rfl rfl (by kernel_rfl) (fun w_ hS_ => (ex_move rfl rfl)) hS ?_
              refine drw_takeE (i := 5) (l' := #[true, true, true, true, true, true, false, false, false, false, false, false, false, false, false]) rfl (guard_none rfl) rfl rfl (by kernel_rfl) (ex_cutH kStr rfl rfl rfl Try.underlying77 tsz9 hp0_0 e5085) hS ?_
              intro u5086 hr5088
              refine drw_take (i := 6) (l' := #[true, true, true, true, true, true, true, false, false, false, false, false, false, false, false]) rfl (guard_none rfl) rfl rfl (by kernel_rfl) (fun w_ hS_ => (ex_move rfl rfl)) hS ?_
              refine drw_take (i := 7) (l' := #[true, true, true, true, true, true, true, true, false, false, false, false, false, false, false]) rfl (guard_none rfl) rfl rfl (by kernel_rfl) (fun w_ hS_ => (ex_nilCheck rfl rfl)) hS ?_
              refine drw_take (i := 8) (l' := #[true, true, true, true, true, true, true, true, true, false, false, false, false, false, false]) rfl (guard_none rfl) rfl rfl (by kernel_rfl) (fun w_ hS_ => (ex_fieldAddr (off' := f0) rfl rfl Try.underlying85 rfl tsz77 rfl)) hS ?_
              refine drw_take (i := 9) (l' := #[true, true, true, true, true, true, true, true, true, true, false, false, false, false, false]) rfl (guard_none rfl) rfl rfl (by kernel_rfl) (fun w_ hS_ => (ex_load1 rfl rfl Try.underlying77 rfl ((hS_.at_ hc0) 0 _ rfl))) hS ?_
              refine drw_take (i := 10) (l' := #[true, true, true, true, true, true, true, true, true, true, true, false, false, false, false]) rfl (guard_none rfl) rfl rfl (by kernel_rfl) (fun w_ hS_ => (ex_move rfl rfl)) hS ?_
              have hc5090 : CellsAt _ (sb p0_0) (so p0_0 + (a5048).toNat * 1) [(.string (gt x0.fTexts a5048))] := rd_plain hp0_0 e5089
              refine drw_take (i := 11) (l' := #[true, true, true, true, true, true, true, true, true, true, true, true, false, false, false]) rfl (guard_none rfl) rfl rfl (by kernel_rfl) (fun w_ hS_ => (ex_indexAddr (d := kStr) rfl rfl rfl Try.underlying77 tsz9 hp0_0 (idx_lo e5089) (idx_hi e5089))) hS ?_
              refine drw_take (i := 12) (l' := #[true, true, true, true, true, true, true, true, true, true, true, true, true, false, false]) rfl (guard_none rfl) rfl rfl (by kernel_rfl) (fun w_ hS_ => (ex_load1 rfl rfl Try.underlying9 rfl ((hS_.at_ hc5090) 0 _ rfl))) hS ?_
              refine drw_one (i := 13) (l' := #[true, true, true, true, true, true, true, true, true, true, true, true, true, true, false]) rfl (guard_none rfl) rfl rfl (by kernel_rfl) (does_callk rfl callok114 rfl (spec_l1At.calls (x0 := x0.fTexts.take (a5048).toNat) (x1 := (gt x0.fTexts a5048)) (HM.rd hr5088) h5092)) ?_
              rintro _ w5093 ⟨rfl, hn⟩
              replace HM : Mem w [] w5093 [] := HM.call hn
              refine ⟨Mem.suf (M := []) HM, ?_⟩
              have hS := Mem.suf (M := []) HM
              refine drw_take (i := 14) (l' := #[true, true, true, true, true, true, true, true, true, true, true, true, true, true, true]) rfl (guard_none rfl) rfl rfl (by kernel_rfl) (fun w_ hS_ => (ex_gtr rfl rfl rfl)) hS ?_
              refine drw_done (by kernel_rfl) ?_
              refine at_then ?_
              refine run_cond (b := (decide (0 < t5091))) rfl (fun hb5094 => ?_) (fun hb5094 => ?_)
              · replace ho5027 := cond_t hb5094 ho5027
                refine run_seq ?_
                refine run_region rfl ?_
                refine ops_ex rfl (guard_none rfl) rfl rfl (ex_assign rfl rfl) ?_
                refine ops_nil ?_
                refine at_then ?_
                refine run_ret ?_
                refine at_block_ret ?_
                refine at_then_ret ?_
                refine at_then_ret ?_
                refine at_block_ret ?_
                refine at_then_ret ?_
                have hR := Option.some.inj ho5027
                subst hR
                have hT := thn_inl H
                have hR := Option.some.inj hT
                subst hR
                exact at_ret1 rfl rfl ⟨_, rfl, rfl, HM⟩
              · replace ho5027 := cond_f hb5094 ho5027
                refine run_skip ?_
                refine at_block ?_
                refine at_then ?_
                refine run_region rfl ?_
                refine ops_ex rfl (guard_none rfl) rfl rfl (ex_move rfl rfl) ?_
                refine ops_ex rfl (guard_none rfl) rfl rfl (ex_add rfl rfl rfl) ?_
                refine ops_ex rfl (guard_none rfl) rfl rfl (ex_assign rfl rfl) ?_
                refine ops_nil ?_
                exact at_again k5069 (ρ1 := [(0, .pointer (some ⟨b0, f0, none⟩)), (3, .int .i64 (wrap64 (a5048 + 1)))]) (Nat.lt_succ_self _) ⟨_, ho5027, rfl, HM⟩ (Sub.cons rfl (Sub.cons rfl Sub.nil))
        · replace ho5027 := cond_f hb5071 ho5027
          refine run_exit ?_
          refine at_then_exit ?_
          refine at_then_exit ?_
          refine at_block_exit ?_
          exact at_mid (ρ' := [(0, .pointer (some ⟨b0, f0, none⟩))]) ⟨(Option.some.inj ho5027), rfl, HM⟩ (Sub.cons rfl Sub.nil)
      · rintro _ w5095 ⟨rfl, rfl, HM⟩
        replace H := (thn_inr H)
        obtain ⟨o5181, ho5182, H⟩ := bind_some H
        refine run_mid (fun ρ_ w_ => Sum.inr () = o5181 ∧ ρ_ = [] ∧ Mem w [] w_ []) ?_ ?_
        · skip
          refine run_seq ?_
          refine run_region rfl ?_
          refine ops_ex rfl (guard_none rfl) rfl rfl (ex_assign rfl rfl) ?_
          refine ops_nil ?_
          refine at_then ?_
          refine run_block ?_
          refine run_loop (fun k_ ρ_ w_ => ∃ a5211 : Int, spec_l1Fault.l1 x0 k_ a5211 = some o5181 ∧ ρ_ = [(0, .pointer (some ⟨b0, f0, none⟩)), (4, .int .i64 a5211)] ∧ Mem w [] w_ []) k (ρ1 := [(0, .pointer (some ⟨b0, f0, none⟩)), (4, .int .i64 0)]) ⟨_, ho5182, rfl, HM⟩ (Sub.cons rfl (Sub.cons rfl Sub.nil)) ?_
          clear HM ho5182
          rintro k5240 _ w5241 ⟨a5211, ho5182, rfl, HM⟩
          obtain _ | k5240 := k5240
          · exact nomatch ((spec_l1Fault.l1_z x0 a5211).symm.trans ho5182)
          replace ho5182 := (spec_l1Fault.l1_s x0 k5240 a5211).symm.trans ho5182
          refine run_seq ?_
          refine run_seq ?_
          refine run_region rfl ?_
          refine ops_ex rfl (guard_none rfl) rfl rfl (ex_move rfl rfl) ?_
          refine ops_ex rfl (guard_none rfl) rfl rfl (ex_move rfl rfl) ?_
          refine ops_ex rfl (guard_none rfl) rfl rfl (ex_nilCheck rfl rfl) ?_
          refine ops_ex rfl (guard_none rfl) rfl rfl (ex_fieldAddr (off' := f0 + 1) rfl rfl Try.underlying85 rfl tsz83 rfl) ?_
          refine ops_ex rfl (guard_none rfl) rfl rfl (ex_load1 rfl rfl Try.underlying83 rfl ((HM.at_ hc0) 1 _ rfl)) ?_
          refine ops_ex rfl (guard_none rfl) rfl rfl (ex_len (d := kSign) (xs := x0.fSigns) rfl rfl Try.underlying83 hp0_1) ?_
          refine ops_ex rfl (guard_none rfl) rfl rfl (ex_lss rfl rfl rfl) ?_
          refine ops_nil ?_
          refine at_then ?_
          refine run_cond (b := (decide (a5211 < (x0.fSigns.length : Int)))) rfl (fun hb5242 => ?_) (fun hb5242 => ?_)
          · replace ho5182 := cond_t hb5242 ho5182
            refine run_skip ?_
            refine at_then ?_
            refine run_seq ?_
            refine run_block ?_
            refine run_seq ?_
            refine run_seq ?_
            obtain ⟨e5252, ho5182⟩ := chk_some ho5182
            obtain ⟨t5254, h5255, ho5182⟩ := bind_some ho5182
            obtain ⟨e5256, ho5182⟩ := chk_some ho5182
            obtain ⟨t5258, h5259, ho5182⟩ := bind_some ho5182
            refine run_meet (fun ρ_ w_ => ρ_ = [(0, .pointer (some ⟨b0, f0, none⟩)), (4, .int .i64 a5211), (98, .bool ((!t5254) || (!t5258)))] ∧ Mem w [] w_ []) ?_ ?_
            · skip
              refine run_draw (fun w_ => Mem w [] w_ []) mixed rfl rfl ?_
              replace HM := HM.grow (fr_drew _)
              have hS := Mem.suf (M := []) HM
              refine drw_take (i := 0) (l' := #[true, false, false, false, false, false, false, false, false, false, false, false, false, false, false, false, false, false, false, false, false, false, false, false, false, false, false]) rfl (guard_none rfl) rfl rfl (by kernel_rfl) (fun w_ hS_ => (ex_move rfl rfl)) hS ?_
              refine drw_take (i := 1) (l' := #[true, true, false, false, false, false, false, false, false, false, false, false, false, false, false, false, false, false, false, false, false, false, false, false, false, false, false]) rfl (guard_none rfl) rfl rfl (by kernel_rfl) (fun w_ hS_ => (ex_nilCheck rfl rfl)) hS ?_
              refine drw_take (i := 2) (l' := #[true, true, true, false, false, false, false, false, false, false, false, false, false, false, false, false, false, false, false, false, false, false, false, false, false, false, false]) rfl (guard_none rfl) rfl rfl (by kernel_rfl) (fun w_ hS_ => (ex_fieldAddr (off' := f0 + 1) rfl rfl Try.underlying85 rfl tsz83 rfl)) hS ?_
              refine drw_take (i := 3) (l' := #[true, true, true, true, false, false, false, false, false, false, false, false, false, false, false, false, false, false, false, false, false, false, false, false, false, false, false]) rfl (guard_none rfl) rfl rfl (by kernel_rfl) (fun w_ hS_ => (ex_load1 rfl rfl Try.underlying83 rfl ((hS_.at_ hc0) 1 _ rfl))) hS ?_
              refine drw_take (i := 4) (l' := #[true, true, true, true, true, false, false, false, false, false, false, false, false, false, false, false, false, false, false, false, false, false, false, false, false, false, false]) rfl (guard_none rfl) rfl rfl (by kernel_rfl) (fun w_ hS_ => (ex_move rfl rfl)) hS ?_
              have hc5253 : CellsAt _ (sb p0_1) (so p0_1 + (a5211).toNat * 2) [(.int .i64 ((gt x0.fSigns a5211).fKey)), (.int .i64 ((gt x0.fSigns a5211).fId))] := rd_plain hp0_1 e5252
              refine drw_take (i := 5) (l' := #[true, true, true, true, true, true, false, false, false, false, false, false, false, false, false, false, false, false, false, false, false, false, false, false, false, false, false]) rfl (guard_none rfl) rfl rfl (by kernel_rfl) (fun w_ hS_ => (ex_indexAddr (d := kSign) rfl rfl rfl Try.underlying83 tsz134 hp0_1 (idx_lo e5252) (idx_hi e5252))) hS ?_
              refine drw_take (i := 6) (l' := #[true, true, true, true, true, true, true, false, false, false, false, false, false, false, false, false, false, false, false, false, false, false, false, false, false, false, false]) rfl (guard_none rfl) rfl rfl (by kernel_rfl) (fun w_ hS_ => (ex_fieldAddr (off' := so p0_1 + (a5211).toNat * 2) rfl rfl Try.underlying134 rfl tsz2 rfl)) hS ?_
              refine drw_take (i := 7) (l' := #[true, true, true, true, true, true, true, true, false, false, false, false, false, false, false, false, false, false, false, false, false, false, false, false, false, false, false]) rfl (guard_none rfl) rfl rfl (by kernel_rfl) (fun w_ hS_ => (ex_load1 rfl rfl Try.underlying2 rfl ((hS_.at_ hc5253) 0 _ rfl))) hS ?_
              refine drw_one (i := 8) (l' := #[true, true, true, true, true, true, true, true, true, false, false, false, false, false, false, false, false, false, false, false, false, false, false, false, false, false, false]) rfl (guard_none rfl) rfl rfl (by kernel_rfl) (does_callk rfl callok105 rfl (spec_l1Key.calls (x0 := (gt x0.fSigns a5211).fKey) h5255)) ?_
              rintro _ w5260 ⟨rfl, hn⟩
              replace HM : Mem w [] w5260 [] := HM.call hn
              refine ⟨Mem.suf (M := []) HM, ?_⟩
              have hS := Mem.suf (M := []) HM
              refine drw_take (i := 9) (l' := #[true, true, true, true, true, true, true, true, true, true, false, false, false, false, false, false, false, false, false, false, false, false, false, false, false, false, false]) rfl (guard_none rfl) rfl rfl (by kernel_rfl) (fun w_ hS_ => (ex_not rfl rfl)) hS ?_
              refine drw_take (i := 10) (l' := #[true, true, true, true, true, true, true, true, true, true, true, false, false, false, false, false, false, false, false, false, false, false, false, false, false, false, false]) rfl (guard_none rfl) rfl rfl (by kernel_rfl) (fun w_ hS_ => (ex_move rfl rfl)) hS ?_
              refine bool_cases (!t5254) (fun hg5261 => ?_) (fun hg5261 => ?_)
              · skip
                refine drw_off (i := 11) (l' := #[true, true, true, true, true, true, true, true, true, true, true, true, false, false, false, false, false, false, false, false, false, false, false, false, false, false, false]) rfl (guard_off rfl rfl rfl hg5261) rfl rfl (by kernel_rfl) hS ?_
                refine drw_off (i := 12) (l' := #[true, true, true, true, true, true, true, true, true, true, true, true, true, false, false, false, false, false, false, false, false, false, false, false, false, false, false]) rfl (guard_off rfl rfl rfl hg5261) rfl rfl (by kernel_rfl) hS ?_
                refine drw_off (i := 13) (l' := #[true, true, true, true, true, true, true, true, true, true, true, true, true, true, false, false, false, false, false, false, false, false, false, false, false, false, false]) rfl (guard_off rfl rfl rfl hg5261) rfl rfl (by kernel_rfl) hS ?_
                refine drw_off (i := 14) (l' := #[true, true, true, true, true, true, true, true, true, true, true, true, true, true, true, false, false, false, false, false, false, false, false, false, false, false, false]) rfl (guard_off rfl rfl rfl hg5261) rfl rfl (by kernel_rfl) hS ?_
                refine drw_off (i := 15) (l' := #[true, true, true, true, true, true, true, true, true, true, true, true, true, true, true, true, false, false, false, false, false, false, false, false, false, false, false]) rfl (guard_off rfl rfl rfl hg5261) rfl rfl (by kernel_rfl) hS ?_
                refine drw_off (i := 16) (l' := #[true, true, true, true, true, true, true, true, true, true, true, true, true, true, true, true, true, false, false, false, false, false, false, false, false, false, false]) rfl (guard_off rfl rfl rfl hg5261) rfl rfl (by kernel_rfl) hS ?_
                refine drw_off (i := 17) (l' := #[true, true, true, true, true, true, true, true, true, true, true, true, true, true, true, true, true, true, false, false, false, false, false, false, false, false, false]) rfl (guard_off rfl rfl rfl hg5261) rfl rfl (by kernel_rfl) hS ?_
                refine drw_off (i := 18) (l' := #[true, true, true, true, true, true, true, true, true, true, true, true, true, true, true, true, true, true, true, false, false, false, false, false, false, false, false]) rfl (guard_off rfl rfl rfl hg5261) rfl rfl (by kernel_rfl) hS ?_
                refine drw_off (i := 19) (l' := #[true, true, true, true, true, true, true, true, true, true, true, true, true, true, true, true, true, true, true, true, false, false, false, false, false, false, false]) rfl (guard_off rfl rfl rfl hg5261) rfl rfl (by kernel_rfl) hS ?_
                refine drw_off (i := 20) (l' := #[true, true, true, true, true, true, true, true, true, true, true, true, true, true, true, true, true, true, true, true, true, false, false, false, false, false, false]) rfl (guard_off rfl rfl rfl hg5261) rfl rfl (by kernel_rfl) hS ?_
                refine drw_off (i := 21) (l' := #[true, true, true, true, true, true, true, true, true, true, true, true, true, true, true, true, true, true, true, true, true, true, false, false, false, false, false]) rfl (guard_off rfl rfl rfl hg5261) rfl rfl (by kernel_rfl) hS ?_
                refine drw_off (i := 22) (l' := #[true, true, true, true, true, true, true, true, true, true, true, true, true, true, true, true, true, true, true, true, true, true, true, false, false, false, false]) rfl (guard_off rfl rfl rfl hg5261) rfl rfl (by kernel_rfl) hS ?_
                refine drw_off (i := 23) (l' := #[true, true, true, true, true, true, true, true, true, true, true, true, true, true, true, true, true, true, true, true, true, true, true, true, false, false, false]) rfl (guard_off rfl rfl rfl hg5261) rfl rfl (by kernel_rfl) hS ?_
                refine drw_off (i := 24) (l' := #[true, true, true, true, true, true, true, true, true, true, true, true, true, true, true, true, true, true, true, true, true, true, true, true, true, false, false]) rfl (guard_off rfl rfl rfl hg5261) rfl rfl (by kernel_rfl) hS ?_
                refine drw_off (i := 25) (l' := #[true, true, true, true, true, true, true, true, true, true, true, true, true, true, true, true, true, true, true, true, true, true, true, true, true, true, false]) rfl (guard_off rfl rfl rfl hg5261) rfl rfl (by kernel_rfl) hS ?_
                have hg5262 : ((!t5254) || (!t5258)) = true := by simp only [hg5261, Bool.and_true, Bool.true_and, Bool.and_false, Bool.false_and, Bool.or_true, Bool.true_or, Bool.or_false, Bool.false_or, Bool.not_true, Bool.not_false, Bool.not_not]
                refine drw_take (i := 26) (v := .bool ((!t5254) || (!t5258))) (l' := #[true, true, true, true, true, true, true, true, true, true, true, true, true, true, true, true, true, true, true, true, true, true, true, true, true, true, true]) rfl (guard_none rfl) rfl rfl (by kernel_rfl) (fun w_ hS_ => (ex_por_t rfl rfl hg5261)) hS ?_
                refine drw_done (by kernel_rfl) ?_
                exact at_meet [(0, .pointer (some ⟨b0, f0, none⟩)), (4, .int .i64 a5211), (98, .bool ((!t5254) || (!t5258)))] ⟨rfl, HM⟩ (Sub.cons rfl (Sub.cons rfl (Sub.cons rfl Sub.nil)))
              · skip
                refine drw_take (i := 11) (l' := #[true, true, true, true, true, true, true, true, true, true, true, true, false, false, false, false, false, false, false, false, false, false, false, false, false, false, false]) rfl (guard_on rfl rfl rfl hg5261) rfl rfl (by kernel_rfl) (fun w_ hS_ => (ex_move rfl rfl)) hS ?_
                refine drw_take (i := 12) (l' := #[true, true, true, true, true, true, true, true, true, true, true, true, true, false, false, false, false, false, false, false, false, false, false, false, false, false, false]) rfl (guard_on rfl rfl rfl hg5261) rfl rfl (by kernel_rfl) (fun w_ hS_ => (ex_nilCheck rfl rfl)) hS ?_
                refine drw_take (i := 13) (l' := #[true, true, true, true, true, true, true, true, true, true, true, true, true, true, false, false, false, false, false, false, false, false, false, false, false, false, false]) rfl (guard_on rfl rfl rfl hg5261) rfl rfl (by kernel_rfl) (fun w_ hS_ => (ex_fieldAddr (off' := f0 + 1) rfl rfl Try.underlying85 rfl tsz83 rfl)) hS ?_
                refine drw_take (i := 14) (l' := #[true, true, true, true, true, true, true, true, true, true, true, true, true, true, true, false, false, false, false, false, false, false, false, false, false, false, false]) rfl (guard_on rfl rfl rfl hg5261) rfl rfl (by kernel_rfl) (fun w_ hS_ => (ex_load1 rfl rfl Try.underlying83 rfl ((hS_.at_ hc0) 1 _ rfl))) hS ?_
                refine drw_take (i := 15) (l' := #[true, true, true, true, true, true, true, true, true, true, true, true, true, true, true, true, false, false, false, false, false, false, false, false, false, false, false]) rfl (guard_on rfl rfl rfl hg5261) rfl rfl (by kernel_rfl) (fun w_ hS_ => (ex_move rfl rfl)) hS ?_
                have hc5257 : CellsAt _ (sb p0_1) (so p0_1 + (a5211).toNat * 2) [(.int .i64 ((gt x0.fSigns a5211).fKey)), (.int .i64 ((gt x0.fSigns a5211).fId))] := rd_plain hp0_1 (or_t e5256 (not_mk hg5261))
                refine drw_take (i := 16) (l' := #[true, true, true, true, true, true, true, true, true, true, true, true, true, true, true, true, true, false, false, false, false, false, false, false, false, false, false]) rfl (guard_on rfl rfl rfl hg5261) rfl rfl (by kernel_rfl) (fun w_ hS_ => (ex_indexAddr (d := kSign) rfl rfl rfl Try.underlying83 tsz134 hp0_1 (idx_lo (or_t e5256 (not_mk hg5261))) (idx_hi (or_t e5256 (not_mk hg5261))))) hS ?_
                refine drw_take (i := 17) (l' := #[true, true, true, true, true, true, true, true, true, true, true, true, true, true, true, true, true, true, false, false, false, false, false, false, false, false, false]) rfl (guard_on rfl rfl rfl hg5261) rfl rfl (by kernel_rfl) (fun w_ hS_ => (ex_fieldAddr (off' := so p0_1 + (a5211).toNat * 2 + 1) rfl rfl Try.underlying134 rfl tsz2 rfl)) hS ?_
                refine drw_take (i := 18) (l' := #[true, true, true, true, true, true, true, true, true, true, true, true, true, true, true, true, true, true, true, false, false, false, false, false, false, false, false]) rfl (guard_on rfl rfl rfl hg5261) rfl rfl (by kernel_rfl) (fun w_ hS_ => (ex_load1 rfl rfl Try.underlying2 rfl ((hS_.at_ hc5257) 1 _ rfl))) hS ?_
                refine drw_take (i := 19) (l' := #[true, true, true, true, true, true, true, true, true, true, true, true, true, true, true, true, true, true, true, true, false, false, false, false, false, false, false]) rfl (guard_on rfl rfl rfl hg5261) rfl rfl (by kernel_rfl) (fun w_ hS_ => (ex_move rfl rfl)) hS ?_
                refine drw_take (i := 20) (l' := #[true, true, true, true, true, true, true, true, true, true, true, true, true, true, true, true, true, true, true, true, true, false, false, false, false, false, false]) rfl (guard_on rfl rfl rfl hg5261) rfl rfl (by kernel_rfl) (fun w_ hS_ => (ex_nilCheck rfl rfl)) hS ?_
                refine drw_take (i := 21) (l' := #[true, true, true, true, true, true, true, true, true, true, true, true, true, true, true, true, true, true, true, true, true, true, false, false, false, false, false]) rfl (guard_on rfl rfl rfl hg5261) rfl rfl (by kernel_rfl) (fun w_ hS_ => (ex_fieldAddr (off' := f0) rfl rfl Try.underlying85 rfl tsz77 rfl)) hS ?_
                refine drw_take (i := 22) (l' := #[true, true, true, true, true, true, true, true, true, true, true, true, true, true, true, true, true, true, true, true, true, true, true, false, false, false, false]) rfl (guard_on rfl rfl rfl hg5261) rfl rfl (by kernel_rfl) (fun w_ hS_ => (ex_load1 rfl rfl Try.underlying77 rfl ((hS_.at_ hc0) 0 _ rfl))) hS ?_
                refine drw_take (i := 23) (l' := #[true, true, true, true, true, true, true, true, true, true, true, true, true, true, true, true, true, true, true, true, true, true, true, true, false, false, false]) rfl (guard_on rfl rfl rfl hg5261) rfl rfl (by kernel_rfl) (fun w_ hS_ => (ex_len (d := kStr) (xs := x0.fTexts) rfl rfl Try.underlying77 hp0_0)) hS ?_
                refine drw_one (i := 24) (l' := #[true, true, true, true, true, true, true, true, true, true, true, true, true, true, true, true, true, true, true, true, true, true, true, true, true, false, false]) rfl (guard_on rfl rfl rfl hg5261) rfl rfl (by kernel_rfl) (does_callk rfl callok56 rfl (spec_l1In.calls (x0 := (gt x0.fSigns a5211).fId) (x1 := 1) (x2 := (x0.fTexts.length : Int)) (cond_t (not_mk hg5261) h5259))) ?_
                rintro _ w5263 ⟨rfl, hn⟩
                replace HM : Mem w [] w5263 [] := HM.call hn
                refine ⟨Mem.suf (M := []) HM, ?_⟩
                have hS := Mem.suf (M := []) HM
                refine drw_take (i := 25) (l' := #[true, true, true, true, true, true, true, true, true, true, true, true, true, true, true, true, true, true, true, true, true, true, true, true, true, true, false]) rfl (guard_on rfl rfl rfl hg5261) rfl rfl (by kernel_rfl) (fun w_ hS_ => (ex_not rfl rfl)) hS ?_
                refine drw_take (i := 26) (v := .bool ((!t5254) || (!t5258))) (l' := #[true, true, true, true, true, true, true, true, true, true, true, true, true, true, true, true, true, true, true, true, true, true, true, true, true, true, true]) rfl (guard_none rfl) rfl rfl (by kernel_rfl) (fun w_ hS_ => (ex_por_f rfl rfl hg5261 rfl)) hS ?_
                refine drw_done (by kernel_rfl) ?_
                exact at_meet [(0, .pointer (some ⟨b0, f0, none⟩)), (4, .int .i64 a5211), (98, .bool ((!t5254) || (!t5258)))] ⟨rfl, HM⟩ (Sub.cons rfl (Sub.cons rfl (Sub.cons rfl Sub.nil)))
            · rintro _ w5264 ⟨rfl, HM⟩
              refine at_then ?_
              refine run_cond (b := ((!t5254) || (!t5258))) rfl (fun hb5265 => ?_) (fun hb5265 => ?_)
              · replace ho5182 := cond_t hb5265 ho5182
                refine run_seq ?_
                refine run_region rfl ?_
                refine ops_ex rfl (guard_none rfl) rfl rfl (ex_assign rfl rfl) ?_
                refine ops_nil ?_
                refine at_then ?_
                refine run_ret ?_
                refine at_then_ret ?_
                refine at_block_ret ?_
                refine at_then_ret ?_
                refine at_then_ret ?_
                refine at_block_ret ?_
                refine at_then_ret ?_
                have hR := Option.some.inj ho5182
                subst hR
                have hT := thn_inl H
                have hR := Option.some.inj hT
                subst hR
                exact at_ret1 rfl rfl ⟨_, rfl, rfl, HM⟩
              · replace ho5182 := cond_f hb5265 ho5182
                refine run_skip ?_
                refine at_then ?_
                refine run_seq ?_
                obtain ⟨e5266, ho5182⟩ := chk_some ho5182
                obtain ⟨e5270, ho5182⟩ := chk_some ho5182
                obtain ⟨t5272, h5273, ho5182⟩ := bind_some ho5182
                refine run_draw (fun w_ => Mem w [] w_ []) mixed rfl rfl ?_
                replace HM := HM.grow (fr_drew _)
                have hS := Mem.suf (M := []) HM
                refine drw_take (i := 0) (l' := #[true, false, false, false, false, false, false, false, false, false, false, false, false, false]) rfl (guard_none rfl) rfl rfl (by kernel_rfl) (fun w_ hS_ => (ex_move rfl rfl)) hS ?_
                refine drw_take (i := 1) (l' := #[true, true, false, false, false, false, false, false, false, false, false, false, false, false]) rfl (guard_none rfl) rfl rfl (by kernel_rfl) (fun w_ hS_ => (ex_nilCheck rfl rfl)) hS ?_
                refine drw_take (i := 2) (l' := #[true, true, true, false, false, false, false, false, false, false, false, false, false, false]) rfl (guard_none rfl) rfl rfl (by kernel_rfl) (fun w_ hS_ => (ex_fieldAddr (off' := f0 + 1) rfl rfl Try.underlying85 rfl tsz83 rfl)) hS ?_
                refine drw_take (i := 3) (l' := #[true, true, true, true, false, false, false, false, false, false, false, false, false, false]) rfl (guard_none rfl) rfl rfl (by kernel_rfl) (fun w_ hS_ => (ex_load1 rfl rfl Try.underlying83 rfl ((hS_.at_ hc0) 1 _ rfl))) hS ?_
                refine drw_take (i := 4) (l' := #[true, true, true, true, true, false, false, false, false, false, false, false, false, false]) rfl (guard_none rfl) rfl rfl (by kernel_rfl) (fun w_ hS_ => (ex_move rfl rfl)) hS ?_
                refine drw_takeE (i := 5) (l' := #[true, true, true, true, true, true, false, false, false, false, false, false, false, false]) rfl (guard_none rfl) rfl rfl (by kernel_rfl) (ex_cutH kSign rfl rfl rfl Try.underlying83 tsz134 hp0_1 e5266) hS ?_
                intro u5267 hr5269
                refine drw_take (i := 6) (l' := #[true, true, true, true, true, true, true, false, false, false, false, false, false, false]) rfl (guard_none rfl) rfl rfl (by kernel_rfl) (fun w_ hS_ => (ex_move rfl rfl)) hS ?_
                refine drw_take (i := 7) (l' := #[true, true, true, true, true, true, true, true, false, false, false, false, false, false]) rfl (guard_none rfl) rfl rfl (by kernel_rfl) (fun w_ hS_ => (ex_nilCheck rfl rfl)) hS ?_
                refine drw_take (i := 8) (l' := #[true, true, true, true, true, true, true, true, true, false, false, false, false, false]) rfl (guard_none rfl) rfl rfl (by kernel_rfl) (fun w_ hS_ => (ex_fieldAddr (off' := f0 + 1) rfl rfl Try.underlying85 rfl tsz83 rfl)) hS ?_
                refine drw_take (i := 9) (l' := #[true, true, true, true, true, true, true, true, true, true, false, false, false, false]) rfl (guard_none rfl) rfl rfl (by kernel_rfl) (fun w_ hS_ => (ex_load1 rfl rfl Try.underlying83 rfl ((hS_.at_ hc0) 1 _ rfl))) hS ?_
                refine drw_take (i := 10) (l' := #[true, true, true, true, true, true, true, true, true, true, true, false, false, false]) rfl (guard_none rfl) rfl rfl (by kernel_rfl) (fun w_ hS_ => (ex_move rfl rfl)) hS ?_
                have hc5271 : CellsAt _ (sb p0_1) (so p0_1 + (a5211).toNat * 2) [(.int .i64 ((gt x0.fSigns a5211).fKey)), (.int .i64 ((gt x0.fSigns a5211).fId))] := rd_plain hp0_1 e5270
                refine drw_take (i := 11) (l' := #[true, true, true, true, true, true, true, true, true, true, true, true, false, false]) rfl (guard_none rfl) rfl rfl (by kernel_rfl) (fun w_ hS_ => (ex_indexAddr (d := kSign) rfl rfl rfl Try.underlying83 tsz134 hp0_1 (idx_lo e5270) (idx_hi e5270))) hS ?_
                refine drw_take (i := 12) (l' := #[true, true, true, true, true, true, true, true, true, true, true, true, true, false]) rfl (guard_none rfl) rfl rfl (by kernel_rfl) (fun w_ hS_ => (ex_loadN (cs := [(.int .i64 ((gt x0.fSigns a5211).fKey)), (.int .i64 ((gt x0.fSigns a5211).fId))]) rfl rfl Try.underlying134 rfl tsz134 rfl ((hS_.at_ hc5271).sub 0 2 rfl))) hS ?_
                refine drw_one (i := 13) (l' := #[true, true, true, true, true, true, true, true, true, true, true, true, true, true]) rfl (guard_none rfl) rfl rfl (by kernel_rfl) (does_callk rfl callok115 rfl (spec_l1Signed.calls (x0 := x0.fSigns.take (a5211).toNat) (x1 := (gt x0.fSigns a5211)) (HM.rd hr5269) h5273)) ?_
                rintro _ w5274 ⟨rfl, hn⟩
                replace HM : Mem w [] w5274 [] := HM.call hn
                refine ⟨Mem.suf (M := []) HM, ?_⟩
                have hS := Mem.suf (M := []) HM
                refine drw_done (by kernel_rfl) ?_
                refine at_then ?_
                refine run_cond (b := t5272) rfl (fun hb5275 => ?_) (fun hb5275 => ?_)
                · replace ho5182 := cond_t hb5275 ho5182
                  refine run_seq ?_
                  refine run_region rfl ?_
                  refine ops_ex rfl (guard_none rfl) rfl rfl (ex_assign rfl rfl) ?_
                  refine ops_nil ?_
                  refine at_then ?_
                  refine run_ret ?_
                  refine at_block_ret ?_
                  refine at_then_ret ?_
                  refine at_then_ret ?_
                  refine at_block_ret ?_
                  refine at_then_ret ?_
                  have hR := Option.some.inj ho5182
                  subst hR
                  have hT := thn_inl H
                  have hR := Option.some.inj hT
                  subst hR
                  exact at_ret1 rfl rfl ⟨_, rfl, rfl, HM⟩
                · replace ho5182 := cond_f hb5275 ho5182
                  refine run_skip ?_
                  refine at_block ?_
                  refine at_then ?_
                  refine run_region rfl ?_
                  refine ops_ex rfl (guard_none rfl) rfl rfl (ex_move rfl rfl) ?_
                  refine ops_ex rfl (guard_none rfl) rfl rfl (ex_add rfl rfl rfl) ?_
                  refine ops_ex rfl (guard_none rfl) rfl rfl (ex_assign rfl rfl) ?_
                  refine ops_nil ?_
                  exact at_again k5240 (ρ1 := [(0, .pointer (some ⟨b0, f0, none⟩)), (4, .int .i64 (wrap64 (a5211 + 1)))]) (Nat.lt_succ_self _) ⟨_, ho5182, rfl, HM⟩ (Sub.cons rfl (Sub.cons rfl Sub.nil))
          · replace ho5182 := cond_f hb5242 ho5182
            refine run_exit ?_
            refine at_then_exit ?_
            refine at_then_exit ?_
            refine at_block_exit ?_
            exact at_mid (ρ' := []) ⟨(Option.some.inj ho5182), rfl, HM⟩ Sub.nil
        · rintro _ w5276 ⟨rfl, rfl, HM⟩
          replace H := (thn_inr H)
          refine run_seq ?_
          refine run_region rfl ?_
          refine ops_ex rfl (guard_none rfl) rfl rfl (ex_assign rfl rfl) ?_
          refine ops_nil ?_
          refine at_then ?_
          refine run_ret ?_
          have hR := Option.some.inj H
          subst hR
          exact at_ret1 rfl rfl ⟨_, rfl, rfl, HM⟩
end Go.Proofs.Ytkofpnbacgccnaa.Zk
