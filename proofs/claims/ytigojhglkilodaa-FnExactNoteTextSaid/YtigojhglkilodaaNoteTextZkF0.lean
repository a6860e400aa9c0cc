/- What functions of the program compute, each as a plain function, and that they do. Conditions: as each theorem states them. -/
import Derived.Test.YtigojhglkilodaaNoteTextZkTy
namespace Go.Proofs.Ytigojhglkilodaa.Zk
open Go Go.RowKit Go.IntWalk Go.Proofs
set_option linter.unusedVariables false
set_option linter.unusedSimpArgs false
set_option maxRecDepth 100000
set_option maxHeartbeats 4000000
def laws_szStringS.l0 (x0 : List ByteArray) : Nat → Int → Int → Option (Int ⊕ Int)
  | 0, _, _ => none
  | k + 1, a51, a52 => (bif (decide (a52 < (x0.length : Int))) then (chk (idxOk a52 x0.length) (bif (decide ((wrap64 (a51 - ((gt x0 a52).size : Int))) < 0)) then some (.inl (-1)) else laws_szStringS.l0 x0 k (wrap64 (a51 - ((gt x0 a52).size : Int))) (wrap64 (a52 + 1)))) else some (.inr a51))
theorem laws_szStringS.l0_z (x0 : List ByteArray) (a51 : Int) (a52 : Int) : laws_szStringS.l0 x0 0 a51 a52 = none := rfl
theorem laws_szStringS.l0_s (x0 : List ByteArray) (k : Nat) (a51 : Int) (a52 : Int) : laws_szStringS.l0 x0 (k + 1) a51 a52 = (bif (decide (a52 < (x0.length : Int))) then (chk (idxOk a52 x0.length) (bif (decide ((wrap64 (a51 - ((gt x0 a52).size : Int))) < 0)) then some (.inl (-1)) else laws_szStringS.l0 x0 k (wrap64 (a51 - ((gt x0 a52).size : Int))) (wrap64 (a52 + 1)))) else some (.inr a51)) := rfl
def laws_szStringS.f (k : Nat) (x0 : List ByteArray) (x1 : Int) : Option Int := (bif (decide ((wrap64 (x1 - (x0.length : Int))) < 0)) then some (-1) else ((laws_szStringS.l0 x0 k (wrap64 (x1 - (x0.length : Int))) 0).bind fun o45 => thn o45 (fun r => some r) (fun a44 => some a44)))
theorem laws_szStringS.calls {k : Nat} {x0 : List ByteArray} {x1 : Int} {p0 : Value} {w : World} (hp0 : RdS kStr w p0 x0) {r : Int} (H : laws_szStringS.f k x0 x1 = some r) :
    Calls Try.prog 56 ([p0, .int .i64 x1] : List Value).toArray w (fun e w_ => ∃ v, e = .returned v ∧ v = (.int .i64 r) ∧ Mem w [] w_ []) := by
  have HM := Mem.start w
  refine calls_run (N := 28) Try.func56 rfl rfl rfl rfl ?_
  unfold laws_szStringS.f at H
  refine run_seq ?_
  refine run_region rfl ?_
  refine ops_ex rfl (guard_none rfl) rfl rfl (ex_assign rfl rfl) ?_
  refine ops_nil ?_
  refine at_then ?_
  refine run_seq ?_
  refine run_region rfl ?_
  refine ops_ex rfl (guard_none rfl) rfl rfl (ex_move rfl rfl) ?_
  refine ops_ex rfl (guard_none rfl) rfl rfl (ex_move rfl rfl) ?_
  refine ops_ex rfl (guard_none rfl) rfl rfl (ex_len (d := kStr) (xs := x0) rfl rfl Try.underlying22 hp0) ?_
  refine ops_ex rfl (guard_none rfl) rfl rfl (ex_sub rfl rfl rfl) ?_
  refine ops_ex rfl (guard_none rfl) rfl rfl (ex_assign rfl rfl) ?_
  refine ops_nil ?_
  refine at_then ?_
  refine run_seq ?_
  refine run_seq ?_
  refine run_region rfl ?_
  refine ops_ex rfl (guard_none rfl) rfl rfl (ex_move rfl rfl) ?_
  refine ops_ex rfl (guard_none rfl) rfl rfl (ex_lss rfl rfl rfl) ?_
  refine ops_nil ?_
  refine at_then ?_
  refine run_cond (b := (decide ((wrap64 (x1 - (x0.length : Int))) < 0))) rfl (fun hb29 => ?_) (fun hb29 => ?_)
  · replace H := cond_t hb29 H
    refine run_seq ?_
    refine run_region rfl ?_
    refine ops_ex rfl (guard_none rfl) rfl rfl (ex_assign rfl rfl) ?_
    refine ops_nil ?_
    refine at_then ?_
    refine run_ret ?_
    refine at_then_ret ?_
    have hR := Option.some.inj H
    subst hR
    exact at_ret1 rfl rfl ⟨_, rfl, rfl, HM⟩
  · replace H := cond_f hb29 H
    refine run_skip ?_
    refine at_then ?_
    obtain ⟨o45, ho46, H⟩ := bind_some H
    refine run_mid (fun ρ_ w_ => ∃ a44 : Int, Sum.inr a44 = o45 ∧ ρ_ = [(1, .int .i64 a44)] ∧ Mem w [] w_ []) ?_ ?_
    · skip
      refine run_seq ?_
      refine run_region rfl ?_
      refine ops_ex rfl (guard_none rfl) rfl rfl (ex_assign rfl rfl) ?_
      refine ops_nil ?_
      refine at_then ?_
      refine run_block ?_
      refine run_loop (fun k_ ρ_ w_ => ∃ a51 : Int, ∃ a52 : Int, laws_szStringS.l0 x0 k_ a51 a52 = some o45 ∧ ρ_ = [(0, p0), (1, .int .i64 a51), (5, .int .i64 a52)] ∧ Mem w [] w_ []) k (ρ1 := [(0, p0), (1, .int .i64 (wrap64 (x1 - (x0.length : Int)))), (5, .int .i64 0)]) ⟨_, _, ho46, rfl, HM⟩ (Sub.cons rfl (Sub.cons rfl (Sub.cons rfl Sub.nil))) ?_
      clear HM ho46
      rintro k57 _ w58 ⟨a51, a52, ho46, rfl, HM⟩
      obtain _ | k57 := k57
      · exact nomatch ((laws_szStringS.l0_z x0 a51 a52).symm.trans ho46)
      replace ho46 := (laws_szStringS.l0_s x0 k57 a51 a52).symm.trans ho46
      refine run_seq ?_
      refine run_seq ?_
      refine run_region rfl ?_
      refine ops_ex rfl (guard_none rfl) rfl rfl (ex_move rfl rfl) ?_
      refine ops_ex rfl (guard_none rfl) rfl rfl (ex_move rfl rfl) ?_
      refine ops_ex rfl (guard_none rfl) rfl rfl (ex_len (d := kStr) (xs := x0) rfl rfl Try.underlying22 hp0) ?_
      refine ops_ex rfl (guard_none rfl) rfl rfl (ex_lss rfl rfl rfl) ?_
      refine ops_nil ?_
      refine at_then ?_
      refine run_cond (b := (decide (a52 < (x0.length : Int)))) rfl (fun hb59 => ?_) (fun hb59 => ?_)
      · replace ho46 := cond_t hb59 ho46
        refine run_skip ?_
        refine at_then ?_
        refine run_seq ?_
        refine run_block ?_
        refine run_seq ?_
        obtain ⟨e60, ho46⟩ := chk_some ho46
        refine run_region rfl ?_
        refine ops_ex rfl (guard_none rfl) rfl rfl (ex_move rfl rfl) ?_
        refine ops_ex rfl (guard_none rfl) rfl rfl (ex_move rfl rfl) ?_
        refine ops_ex rfl (guard_none rfl) rfl rfl (ex_move rfl rfl) ?_
        have hc61 : CellsAt _ (sb p0) (so p0 + (a52).toNat * 1) [(.string (gt x0 a52))] := rd_plain hp0 e60
        refine ops_ex rfl (guard_none rfl) rfl rfl (ex_indexAddr (d := kStr) rfl rfl rfl Try.underlying22 tsz9 hp0 (idx_lo e60) (idx_hi e60)) ?_
        refine ops_ex rfl (guard_none rfl) rfl rfl (ex_load1 rfl rfl Try.underlying9 rfl ((HM.at_ hc61) 0 _ rfl)) ?_
        refine ops_ex rfl (guard_none rfl) rfl rfl (ex_strlen rfl rfl Try.underlying9) ?_
        refine ops_ex rfl (guard_none rfl) rfl rfl (ex_sub rfl rfl rfl) ?_
        refine ops_ex rfl (guard_none rfl) rfl rfl (ex_assign rfl rfl) ?_
        refine ops_nil ?_
        refine at_then ?_
        refine run_seq ?_
        refine run_region rfl ?_
        refine ops_ex rfl (guard_none rfl) rfl rfl (ex_move rfl rfl) ?_
        refine ops_ex rfl (guard_none rfl) rfl rfl (ex_lss rfl rfl rfl) ?_
        refine ops_nil ?_
        refine at_then ?_
        refine run_cond (b := (decide ((wrap64 (a51 - ((gt x0 a52).size : Int))) < 0))) rfl (fun hb62 => ?_) (fun hb62 => ?_)
        · replace ho46 := cond_t hb62 ho46
          refine run_seq ?_
          refine run_region rfl ?_
          refine ops_ex rfl (guard_none rfl) rfl rfl (ex_assign rfl rfl) ?_
          refine ops_nil ?_
          refine at_then ?_
          refine run_ret ?_
          refine at_block_ret ?_
          refine at_then_ret ?_
          refine at_then_ret ?_
          refine at_block_ret ?_
          refine at_then_ret ?_
          have hR := Option.some.inj ho46
          subst hR
          have hT := thn_inl H
          have hR := Option.some.inj hT
          subst hR
          exact at_ret1 rfl rfl ⟨_, rfl, rfl, HM⟩
        · replace ho46 := cond_f hb62 ho46
          refine run_skip ?_
          refine at_block ?_
          refine at_then ?_
          refine run_region rfl ?_
          refine ops_ex rfl (guard_none rfl) rfl rfl (ex_move rfl rfl) ?_
          refine ops_ex rfl (guard_none rfl) rfl rfl (ex_add rfl rfl rfl) ?_
          refine ops_ex rfl (guard_none rfl) rfl rfl (ex_assign rfl rfl) ?_
          refine ops_nil ?_
          exact at_again k57 (ρ1 := [(0, p0), (1, .int .i64 (wrap64 (a51 - ((gt x0 a52).size : Int)))), (5, .int .i64 (wrap64 (a52 + 1)))]) (Nat.lt_succ_self _) ⟨_, _, ho46, rfl, HM⟩ (Sub.cons rfl (Sub.cons rfl (Sub.cons rfl Sub.nil)))
      · replace ho46 := cond_f hb59 ho46
        refine run_exit ?_
        refine at_then_exit ?_
        refine at_then_exit ?_
        refine at_block_exit ?_
        exact at_mid (ρ' := [(1, .int .i64 a51)]) ⟨_, (Option.some.inj ho46), rfl, HM⟩ (Sub.cons rfl Sub.nil)
    · rintro _ w63 ⟨a44, rfl, rfl, HM⟩
      replace H := (thn_inr H)
      refine run_seq ?_
      refine run_region rfl ?_
      refine ops_ex rfl (guard_none rfl) rfl rfl (ex_move rfl rfl) ?_
      refine ops_ex rfl (guard_none rfl) rfl rfl (ex_assign rfl rfl) ?_
      refine ops_nil ?_
      refine at_then ?_
      refine run_ret ?_
      have hR := Option.some.inj H
      subst hR
      exact at_ret1 rfl rfl ⟨_, rfl, rfl, HM⟩

def laws_szSignS.f (k : Nat) (x0 : List Sign) (x1 : Int) : Option Int := (bif (decide ((wrap64 (x1 - (x0.length : Int))) < 0)) then some (-1) else some (wrap64 (x1 - (x0.length : Int))))
theorem laws_szSignS.calls {k : Nat} {x0 : List Sign} {x1 : Int} {p0 : Value} {w : World} (hp0 : RdS kSign w p0 x0) {r : Int} (H : laws_szSignS.f k x0 x1 = some r) :
    Calls Try.prog 57 ([p0, .int .i64 x1] : List Value).toArray w (fun e w_ => ∃ v, e = .returned v ∧ v = (.int .i64 r) ∧ Mem w [] w_ []) := by
  have HM := Mem.start w
  refine calls_run (N := 12) Try.func57 rfl rfl rfl rfl ?_
  unfold laws_szSignS.f at H
  refine run_seq ?_
  refine run_region rfl ?_
  refine ops_ex rfl (guard_none rfl) rfl rfl (ex_assign rfl rfl) ?_
  refine ops_nil ?_
  refine at_then ?_
  refine run_seq ?_
  refine run_region rfl ?_
  refine ops_ex rfl (guard_none rfl) rfl rfl (ex_move rfl rfl) ?_
  refine ops_ex rfl (guard_none rfl) rfl rfl (ex_move rfl rfl) ?_
  refine ops_ex rfl (guard_none rfl) rfl rfl (ex_len (d := kSign) (xs := x0) rfl rfl Try.underlying23 hp0) ?_
  refine ops_ex rfl (guard_none rfl) rfl rfl (ex_sub rfl rfl rfl) ?_
  refine ops_ex rfl (guard_none rfl) rfl rfl (ex_assign rfl rfl) ?_
  refine ops_nil ?_
  refine at_then ?_
  refine run_seq ?_
  refine run_seq ?_
  refine run_region rfl ?_
  refine ops_ex rfl (guard_none rfl) rfl rfl (ex_move rfl rfl) ?_
  refine ops_ex rfl (guard_none rfl) rfl rfl (ex_lss rfl rfl rfl) ?_
  refine ops_nil ?_
  refine at_then ?_
  refine run_cond (b := (decide ((wrap64 (x1 - (x0.length : Int))) < 0))) rfl (fun hb69 => ?_) (fun hb69 => ?_)
  · replace H := cond_t hb69 H
    refine run_seq ?_
    refine run_region rfl ?_
    refine ops_ex rfl (guard_none rfl) rfl rfl (ex_assign rfl rfl) ?_
    refine ops_nil ?_
    refine at_then ?_
    refine run_ret ?_
    refine at_then_ret ?_
    have hR := Option.some.inj H
    subst hR
    exact at_ret1 rfl rfl ⟨_, rfl, rfl, HM⟩
  · replace H := cond_f hb69 H
    refine run_skip ?_
    refine at_then ?_
    refine run_seq ?_
    refine run_region rfl ?_
    refine ops_ex rfl (guard_none rfl) rfl rfl (ex_move rfl rfl) ?_
    refine ops_ex rfl (guard_none rfl) rfl rfl (ex_assign rfl rfl) ?_
    refine ops_nil ?_
    refine at_then ?_
    refine run_ret ?_
    have hR := Option.some.inj H
    subst hR
    exact at_ret1 rfl rfl ⟨_, rfl, rfl, HM⟩

def laws_szLedger.f (k : Nat) (x0 : Ledger) (x1 : Int) : Option Int := ((laws_szStringS.f k x0.fTexts x1).bind fun t77 => (bif (decide (t77 < 0)) then some (-1) else ((laws_szSignS.f k x0.fSigns t77).bind fun t82 => (bif (decide (t82 < 0)) then some (-1) else some t82))))
theorem laws_szLedger.calls {k : Nat} {x0 : Ledger} {x1 : Int} {p0_0 : Value} {p0_1 : Value} {w : World} (hp0_0 : RdS kStr w p0_0 x0.fTexts) (hp0_1 : RdS kSign w p0_1 x0.fSigns) {r : Int} (H : laws_szLedger.f k x0 x1 = some r) :
    Calls Try.prog 9 ([.agg #[p0_0, p0_1], .int .i64 x1] : List Value).toArray w (fun e w_ => ∃ v, e = .returned v ∧ v = (.int .i64 r) ∧ Mem w [] w_ []) := by
  have HM := Mem.start w
  refine calls_run (N := 18) Try.func9 rfl rfl rfl rfl ?_
  unfold laws_szLedger.f at H
  refine run_seq ?_
  refine run_region rfl ?_
  refine ops_does rfl (guard_none rfl) rfl rfl (does_box (cs := [p0_0, p0_1]) rfl rfl rfl HM) ?_
  rintro _ w76 ⟨b73, rfl, HM⟩
  refine ops_ex rfl (guard_none rfl) rfl rfl (ex_assign rfl rfl) ?_
  refine ops_nil ?_
  refine at_then ?_
  refine run_seq ?_
  obtain ⟨t77, h78, H⟩ := bind_some H
  refine run_region rfl ?_
  refine ops_ex rfl (guard_none rfl) rfl rfl (ex_fieldAddr (off' := 0) rfl rfl Try.underlying25 rfl tsz22 rfl) ?_
  refine ops_ex rfl (guard_none rfl) rfl rfl (ex_load1 rfl rfl Try.underlying22 rfl ((HM.box_at 0 rfl) 0 _ rfl)) ?_
  refine ops_ex rfl (guard_none rfl) rfl rfl (ex_move rfl rfl) ?_
  refine ops_does rfl (guard_none rfl) rfl rfl (does_callk rfl callok56 rfl (laws_szStringS.calls (x0 := x0.fTexts) (x1 := x1) (HM.rd hp0_0) h78)) ?_
  rintro _ w79 ⟨rfl, hn⟩
  replace HM : Mem w [] w79 [box b73 25 [p0_0, p0_1]] := HM.call hn
  refine ops_ex rfl (guard_none rfl) rfl rfl (ex_assign rfl rfl) ?_
  refine ops_nil ?_
  refine at_then ?_
  refine run_seq ?_
  refine run_seq ?_
  refine run_region rfl ?_
  refine ops_ex rfl (guard_none rfl) rfl rfl (ex_move rfl rfl) ?_
  refine ops_ex rfl (guard_none rfl) rfl rfl (ex_lss rfl rfl rfl) ?_
  refine ops_nil ?_
  refine at_then ?_
  refine run_cond (b := (decide (t77 < 0))) rfl (fun hb81 => ?_) (fun hb81 => ?_)
  · replace H := cond_t hb81 H
    refine run_seq ?_
    refine run_region rfl ?_
    refine ops_ex rfl (guard_none rfl) rfl rfl (ex_assign rfl rfl) ?_
    refine ops_nil ?_
    refine at_then ?_
    refine run_ret ?_
    refine at_then_ret ?_
    replace HM := (HM.front 0 rfl rfl).drop
    have hR := Option.some.inj H
    subst hR
    exact at_ret1 rfl rfl ⟨_, rfl, rfl, HM⟩
  · replace H := cond_f hb81 H
    refine run_skip ?_
    refine at_then ?_
    refine run_seq ?_
    obtain ⟨t82, h83, H⟩ := bind_some H
    refine run_region rfl ?_
    refine ops_ex rfl (guard_none rfl) rfl rfl (ex_fieldAddr (off' := 1) rfl rfl Try.underlying25 rfl tsz23 rfl) ?_
    refine ops_ex rfl (guard_none rfl) rfl rfl (ex_load1 rfl rfl Try.underlying23 rfl ((HM.box_at 0 rfl) 1 _ rfl)) ?_
    refine ops_ex rfl (guard_none rfl) rfl rfl (ex_move rfl rfl) ?_
    refine ops_does rfl (guard_none rfl) rfl rfl (does_callk rfl callok57 rfl (laws_szSignS.calls (x0 := x0.fSigns) (x1 := t77) (HM.rd hp0_1) h83)) ?_
    rintro _ w84 ⟨rfl, hn⟩
    replace HM : Mem w [] w84 [box b73 25 [p0_0, p0_1]] := HM.call hn
    refine ops_ex rfl (guard_none rfl) rfl rfl (ex_assign rfl rfl) ?_
    refine ops_nil ?_
    refine at_then ?_
    refine run_seq ?_
    refine run_seq ?_
    refine run_region rfl ?_
    refine ops_ex rfl (guard_none rfl) rfl rfl (ex_move rfl rfl) ?_
    refine ops_ex rfl (guard_none rfl) rfl rfl (ex_lss rfl rfl rfl) ?_
    refine ops_nil ?_
    refine at_then ?_
    refine run_cond (b := (decide (t82 < 0))) rfl (fun hb85 => ?_) (fun hb85 => ?_)
    · replace H := cond_t hb85 H
      refine run_seq ?_
      refine run_region rfl ?_
      refine ops_ex rfl (guard_none rfl) rfl rfl (ex_assign rfl rfl) ?_
      refine ops_nil ?_
      refine at_then ?_
      refine run_ret ?_
      refine at_then_ret ?_
      replace HM := (HM.front 0 rfl rfl).drop
      have hR := Option.some.inj H
      subst hR
      exact at_ret1 rfl rfl ⟨_, rfl, rfl, HM⟩
    · replace H := cond_f hb85 H
      refine run_skip ?_
      refine at_then ?_
      refine run_seq ?_
      refine run_region rfl ?_
      refine ops_ex rfl (guard_none rfl) rfl rfl (ex_move rfl rfl) ?_
      refine ops_ex rfl (guard_none rfl) rfl rfl (ex_assign rfl rfl) ?_
      refine ops_nil ?_
      refine at_then ?_
      refine run_ret ?_
      replace HM := (HM.front 0 rfl rfl).drop
      have hR := Option.some.inj H
      subst hR
      exact at_ret1 rfl rfl ⟨_, rfl, rfl, HM⟩

def laws_toStringS.l0 (x0 : List ByteArray) : Nat → (List ByteArray) → Int → Option ((List ByteArray))
  | 0, _, _ => none
  | k + 1, a157, a159 => (bif (decide (a159 < (x0.length : Int))) then (chk (idxOk a159 x0.length) (chk (idxOk a159 a157.length) (laws_toStringS.l0 x0 k (a157.set (a159).toNat (gt x0 a159)) (wrap64 (a159 + 1))))) else some a157)
theorem laws_toStringS.l0_z (x0 : List ByteArray) (a157 : List ByteArray) (a159 : Int) : laws_toStringS.l0 x0 0 a157 a159 = none := rfl
theorem laws_toStringS.l0_s (x0 : List ByteArray) (k : Nat) (a157 : List ByteArray) (a159 : Int) : laws_toStringS.l0 x0 (k + 1) a157 a159 = (bif (decide (a159 < (x0.length : Int))) then (chk (idxOk a159 x0.length) (chk (idxOk a159 a157.length) (laws_toStringS.l0 x0 k (a157.set (a159).toNat (gt x0 a159)) (wrap64 (a159 + 1))))) else some a157) := rfl
def laws_toStringS.f (k : Nat) (x0 : List ByteArray) : Option ((List ByteArray)) := (chk (decide (0 ≤ (x0.length : Int))) (chk (leB (((x0.length : Int)).toNat * 16) 281474976710656) ((laws_toStringS.l0 x0 k (List.replicate ((x0.length : Int)).toNat (⟨#[]⟩ : ByteArray)) 0).bind (fun a148 => some a148))))
theorem laws_toStringS.calls {k : Nat} {x0 : List ByteArray} {p0 : Value} {w : World} (hp0 : RdS kStr w p0 x0) {r : (List ByteArray)} (H : laws_toStringS.f k x0 = some r) :
    Calls Try.prog 61 ([p0] : List Value).toArray w (fun e w_ => ∃ v, e = .returned v ∧ ∃ u0 : Value, v = u0 ∧ Mem w [] w_ [own kStr 9 u0 r]) := by
  have HM := Mem.start w
  refine calls_run (N := 22) Try.func61 rfl rfl rfl rfl ?_
  unfold laws_toStringS.f at H
  refine run_seq ?_
  refine run_region rfl ?_
  refine ops_ex rfl (guard_none rfl) rfl rfl (ex_assign rfl rfl) ?_
  refine ops_nil ?_
  refine at_then ?_
  refine run_seq ?_
  obtain ⟨e128, H⟩ := chk_some H
  obtain ⟨e129, H⟩ := chk_some H
  refine run_region rfl ?_
  refine ops_ex rfl (guard_none rfl) rfl rfl (ex_move rfl rfl) ?_
  refine ops_ex rfl (guard_none rfl) rfl rfl (ex_len (d := kStr) (xs := x0) rfl rfl Try.underlying22 hp0) ?_
  refine ops_does rfl (guard_none rfl) rfl rfl (does_make (x := (⟨#[]⟩ : ByteArray)) kStr rfl rfl rfl Try.underlying22 tsz9 tby9 tz9 rfl rfl (fun _ => ⟨rfl, rfl⟩) (of_decide_eq_true e128) rfl (leB_le e129) rfl HM) ?_
  rintro v125 w130 HM
  refine ops_ex rfl (guard_none rfl) rfl rfl (ex_assign rfl rfl) ?_
  refine ops_nil ?_
  refine at_then ?_
  obtain ⟨o150, ho151, H⟩ := bind_some H
  refine run_mid (fun ρ_ w_ => ∃ v147 : Value, ∃ a148 : List ByteArray, a148 = o150 ∧ ρ_ = [(3, v147)] ∧ Mem w [] w_ [own kStr 9 v147 a148]) ?_ ?_
  · clear H
    refine run_seq ?_
    refine run_region rfl ?_
    refine ops_ex rfl (guard_none rfl) rfl rfl (ex_assign rfl rfl) ?_
    refine ops_nil ?_
    refine at_then ?_
    refine run_block ?_
    refine run_loop (fun k_ ρ_ w_ => ∃ v156 : Value, ∃ a157 : List ByteArray, ∃ a159 : Int, laws_toStringS.l0 x0 k_ a157 a159 = some o150 ∧ ρ_ = [(0, p0), (3, v156), (4, .int .i64 a159)] ∧ Mem w [] w_ [own kStr 9 v156 a157]) k (ρ1 := [(0, p0), (3, v125), (4, .int .i64 0)]) ⟨_, _, _, ho151, rfl, HM⟩ (Sub.cons rfl (Sub.cons rfl (Sub.cons rfl Sub.nil))) ?_
    clear HM ho151
    rintro k164 _ w165 ⟨v156, a157, a159, ho151, rfl, HM⟩
    obtain _ | k164 := k164
    · exact nomatch ((laws_toStringS.l0_z x0 a157 a159).symm.trans ho151)
    replace ho151 := (laws_toStringS.l0_s x0 k164 a157 a159).symm.trans ho151
    refine run_seq ?_
    refine run_seq ?_
    refine run_region rfl ?_
    refine ops_ex rfl (guard_none rfl) rfl rfl (ex_move rfl rfl) ?_
    refine ops_ex rfl (guard_none rfl) rfl rfl (ex_move rfl rfl) ?_
    refine ops_ex rfl (guard_none rfl) rfl rfl (ex_len (d := kStr) (xs := x0) rfl rfl Try.underlying22 hp0) ?_
    refine ops_ex rfl (guard_none rfl) rfl rfl (ex_lss rfl rfl rfl) ?_
    refine ops_nil ?_
    refine at_then ?_
    refine run_cond (b := (decide (a159 < (x0.length : Int)))) rfl (fun hb166 => ?_) (fun hb166 => ?_)
    · replace ho151 := cond_t hb166 ho151
      refine run_skip ?_
      refine at_then ?_
      refine run_seq ?_
      refine run_block ?_
      obtain ⟨e167, ho151⟩ := chk_some ho151
      obtain ⟨e169, ho151⟩ := chk_some ho151
      refine run_region rfl ?_
      refine ops_ex rfl (guard_none rfl) rfl rfl (ex_move rfl rfl) ?_
      refine ops_ex rfl (guard_none rfl) rfl rfl (ex_move rfl rfl) ?_
      refine ops_ex rfl (guard_none rfl) rfl rfl (ex_move rfl rfl) ?_
      refine ops_ex rfl (guard_none rfl) rfl rfl (ex_move rfl rfl) ?_
      have hc168 : CellsAt _ (sb p0) (so p0 + (a159).toNat * 1) [(.string (gt x0 a159))] := rd_plain hp0 e167
      refine ops_ex rfl (guard_none rfl) rfl rfl (ex_indexAddr (d := kStr) rfl rfl rfl Try.underlying22 tsz9 hp0 (idx_lo e167) (idx_hi e167)) ?_
      refine ops_ex rfl (guard_none rfl) rfl rfl (ex_load1 rfl rfl Try.underlying9 rfl ((HM.at_ hc168) 0 _ rfl)) ?_
      refine ops_ex rfl (guard_none rfl) rfl rfl (ex_indexAddr (d := kStr) rfl rfl rfl Try.underlying22 tsz9 (HM.own_rd 0 rfl) (idx_lo e169) (idx_hi e169)) ?_
      refine ops_doesS rfl (guard_none rfl) rfl (does_setElem (vs := [(.string (gt x0 a159))]) (y := (gt x0 a159)) kStr rfl rfl rfl rfl rfl tsz9 rfl rfl (idx_nat e169) (fun _ _ h => ⟨rfl, h⟩) (HM.emp.front 1 rfl rfl)) ?_
      rintro w170 HM
      refine ops_nil ?_
      refine at_block ?_
      refine at_then ?_
      refine run_region rfl ?_
      refine ops_ex rfl (guard_none rfl) rfl rfl (ex_move rfl rfl) ?_
      refine ops_ex rfl (guard_none rfl) rfl rfl (ex_add rfl rfl rfl) ?_
      refine ops_ex rfl (guard_none rfl) rfl rfl (ex_assign rfl rfl) ?_
      refine ops_nil ?_
      exact at_again k164 (ρ1 := [(0, p0), (3, v156), (4, .int .i64 (wrap64 (a159 + 1)))]) (Nat.lt_succ_self _) ⟨_, _, _, ho151, rfl, HM⟩ (Sub.cons rfl (Sub.cons rfl (Sub.cons rfl Sub.nil)))
    · replace ho151 := cond_f hb166 ho151
      refine run_exit ?_
      refine at_then_exit ?_
      refine at_then_exit ?_
      refine at_block_exit ?_
      exact at_mid (ρ' := [(3, v156)]) ⟨_, _, (Option.some.inj ho151), rfl, HM⟩ (Sub.cons rfl Sub.nil)
  · rintro _ w171 ⟨v147, a148, rfl, rfl, HM⟩
    refine run_seq ?_
    refine run_region rfl ?_
    refine ops_ex rfl (guard_none rfl) rfl rfl (ex_move rfl rfl) ?_
    refine ops_ex rfl (guard_none rfl) rfl rfl (ex_assign rfl rfl) ?_
    refine ops_nil ?_
    refine at_then ?_
    refine run_ret ?_
    have hR := Option.some.inj H
    subst hR
    exact at_ret1 rfl rfl ⟨_, rfl, _, rfl, HM⟩

def laws_toSign.f (k : Nat) (x0 : Sign) : Option Sign := some x0
theorem laws_toSign.calls {k : Nat} {x0 : Sign}  {w : World}  {r : Sign} (H : laws_toSign.f k x0 = some r) :
    Calls Try.prog 109 ([.agg #[(.int .i64 x0.fKey), (.int .i64 x0.fId)]] : List Value).toArray w (fun e w_ => ∃ v, e = .returned v ∧ v = (.agg #[.int .i64 r.fKey, .int .i64 r.fId]) ∧ Mem w [] w_ []) := by
  have HM := Mem.start w
  refine calls_run (N := 11) Try.func109 rfl rfl rfl rfl ?_
  unfold laws_toSign.f at H
  refine run_seq ?_
  refine run_region rfl ?_
  refine ops_does rfl (guard_none rfl) rfl rfl (does_box (cs := [.int .i64 x0.fKey, .int .i64 x0.fId]) rfl rfl rfl HM) ?_
  rintro _ w199 ⟨b193, rfl, HM⟩
  refine ops_does rfl (guard_none rfl) rfl rfl (does_alloc (cs := [.int .i64 0, .int .i64 0]) rfl tz161 rfl HM) ?_
  rintro _ w200 ⟨b196, rfl, HM⟩
  refine ops_nil ?_
  refine at_then ?_
  refine run_seq ?_
  refine run_region rfl ?_
  refine ops_does rfl (guard_none rfl) rfl rfl (does_alloc (cs := [.int .i64 0, .int .i64 0]) rfl tz161 rfl HM) ?_
  rintro _ w204 ⟨b201, rfl, HM⟩
  refine ops_nil ?_
  refine at_then ?_
  refine run_seq ?_
  refine run_region rfl ?_
  refine ops_ex rfl (guard_none rfl) rfl rfl (ex_fieldAddr (off' := 0) rfl rfl Try.underlying164 rfl tsz2 rfl) ?_
  refine ops_ex rfl (guard_none rfl) rfl rfl (ex_load1 rfl rfl Try.underlying2 rfl ((HM.box_at 2 rfl) 0 _ rfl)) ?_
  refine ops_ex rfl (guard_none rfl) rfl rfl (ex_fieldAddr (off' := 0) rfl rfl Try.underlying161 rfl tsz2 rfl) ?_
  refine ops_doesS rfl (guard_none rfl) rfl (does_store (vs := [.int .i64 x0.fKey]) (cs' := [.int .i64 x0.fKey, .int .i64 0]) rfl rfl rfl rfl tsz2 (Ones.int Ones.nil) rfl rfl HM) ?_
  rintro w205 HM
  refine ops_nil ?_
  refine at_then ?_
  refine run_seq ?_
  refine run_region rfl ?_
  refine ops_ex rfl (guard_none rfl) rfl rfl (ex_fieldAddr (off' := 1) rfl rfl Try.underlying164 rfl tsz2 rfl) ?_
  refine ops_ex rfl (guard_none rfl) rfl rfl (ex_load1 rfl rfl Try.underlying2 rfl ((HM.box_at 2 rfl) 1 _ rfl)) ?_
  refine ops_ex rfl (guard_none rfl) rfl rfl (ex_fieldAddr (off' := 1) rfl rfl Try.underlying161 rfl tsz2 rfl) ?_
  refine ops_doesS rfl (guard_none rfl) rfl (does_store (vs := [.int .i64 x0.fId]) (cs' := [.int .i64 x0.fKey, .int .i64 x0.fId]) rfl rfl rfl rfl tsz2 (Ones.int Ones.nil) rfl rfl HM) ?_
  rintro w206 HM
  refine ops_nil ?_
  refine at_then ?_
  refine run_seq ?_
  refine run_region rfl ?_
  refine ops_ex rfl (guard_none rfl) rfl rfl (ex_loadN (cs := [(.int .i64 x0.fKey), (.int .i64 x0.fId)]) rfl rfl Try.underlying161 rfl tsz161 rfl ((HM.box_at 0 rfl).sub 0 2 rfl)) ?_
  replace HM := HM.front 1 rfl rfl
  refine ops_doesS rfl (guard_none rfl) rfl (does_store (vs := [.int .i64 x0.fKey, .int .i64 x0.fId]) (cs' := [.int .i64 x0.fKey, .int .i64 x0.fId]) rfl rfl rfl rfl tsz161 (Ones.int (Ones.int Ones.nil)) rfl rfl HM) ?_
  rintro w207 HM
  refine ops_nil ?_
  refine at_then ?_
  refine run_ret ?_
  replace HM := (HM.front 1 rfl rfl).drop
  replace HM := (HM.front 1 rfl rfl).drop
  have hcb0 := HM.box_at 0 rfl
  replace HM := (HM.front 0 rfl rfl).drop
  have hR := Option.some.inj H
  subst hR
  exact at_retN rfl rfl Try.underlying161 rfl tsz161 rfl hcb0 ⟨_, rfl, rfl, HM⟩

def laws_toSignS.l0 (x0 : List Sign) : Nat → (List Sign) → Int → Option ((List Sign))
  | 0, _, _ => none
  | k + 1, a272, a274 => (bif (decide (a274 < (x0.length : Int))) then (chk (idxOk a274 x0.length) ((laws_toSign.f k (gt x0 a274)).bind fun t286 => (chk (idxOk a274 a272.length) (laws_toSignS.l0 x0 k (a272.set (a274).toNat t286) (wrap64 (a274 + 1)))))) else some a272)
theorem laws_toSignS.l0_z (x0 : List Sign) (a272 : List Sign) (a274 : Int) : laws_toSignS.l0 x0 0 a272 a274 = none := rfl
theorem laws_toSignS.l0_s (x0 : List Sign) (k : Nat) (a272 : List Sign) (a274 : Int) : laws_toSignS.l0 x0 (k + 1) a272 a274 = (bif (decide (a274 < (x0.length : Int))) then (chk (idxOk a274 x0.length) ((laws_toSign.f k (gt x0 a274)).bind fun t286 => (chk (idxOk a274 a272.length) (laws_toSignS.l0 x0 k (a272.set (a274).toNat t286) (wrap64 (a274 + 1)))))) else some a272) := rfl
def laws_toSignS.f (k : Nat) (x0 : List Sign) : Option ((List Sign)) := (chk (decide (0 ≤ (x0.length : Int))) (chk (leB (((x0.length : Int)).toNat * 16) 281474976710656) ((laws_toSignS.l0 x0 k (List.replicate ((x0.length : Int)).toNat (⟨0, 0⟩ : Sign)) 0).bind (fun a261 => some a261))))
theorem laws_toSignS.calls {k : Nat} {x0 : List Sign} {p0 : Value} {w : World} (hp0 : RdS kSign w p0 x0) {r : (List Sign)} (H : laws_toSignS.f k x0 = some r) :
    Calls Try.prog 62 ([p0] : List Value).toArray w (fun e w_ => ∃ v, e = .returned v ∧ ∃ u0 : Value, v = u0 ∧ Mem w [] w_ [own kSign 161 u0 r]) := by
  have HM := Mem.start w
  refine calls_run (N := 23) Try.func62 rfl rfl rfl rfl ?_
  unfold laws_toSignS.f at H
  refine run_seq ?_
  refine run_region rfl ?_
  refine ops_ex rfl (guard_none rfl) rfl rfl (ex_assign rfl rfl) ?_
  refine ops_nil ?_
  refine at_then ?_
  refine run_seq ?_
  obtain ⟨e235, H⟩ := chk_some H
  obtain ⟨e236, H⟩ := chk_some H
  refine run_region rfl ?_
  refine ops_ex rfl (guard_none rfl) rfl rfl (ex_move rfl rfl) ?_
  refine ops_ex rfl (guard_none rfl) rfl rfl (ex_len (d := kSign) (xs := x0) rfl rfl Try.underlying23 hp0) ?_
  refine ops_does rfl (guard_none rfl) rfl rfl (does_make (x := (⟨0, 0⟩ : Sign)) kSign rfl rfl rfl Try.underlying27 tsz161 tby161 tz161 rfl rfl (fun _ => ⟨rfl, rfl⟩) (of_decide_eq_true e235) rfl (leB_le e236) rfl HM) ?_
  rintro v232 w237 HM
  refine ops_ex rfl (guard_none rfl) rfl rfl (ex_assign rfl rfl) ?_
  refine ops_nil ?_
  refine at_then ?_
  obtain ⟨o263, ho264, H⟩ := bind_some H
  refine run_mid (fun ρ_ w_ => ∃ v260 : Value, ∃ a261 : List Sign, a261 = o263 ∧ ρ_ = [(3, v260)] ∧ Mem w [] w_ [own kSign 161 v260 a261]) ?_ ?_
  · clear H
    refine run_seq ?_
    refine run_region rfl ?_
    refine ops_ex rfl (guard_none rfl) rfl rfl (ex_assign rfl rfl) ?_
    refine ops_nil ?_
    refine at_then ?_
    refine run_block ?_
    refine run_loop (fun k_ ρ_ w_ => ∃ v271 : Value, ∃ a272 : List Sign, ∃ a274 : Int, laws_toSignS.l0 x0 k_ a272 a274 = some o263 ∧ ρ_ = [(0, p0), (3, v271), (4, .int .i64 a274)] ∧ Mem w [] w_ [own kSign 161 v271 a272]) k (ρ1 := [(0, p0), (3, v232), (4, .int .i64 0)]) ⟨_, _, _, ho264, rfl, HM⟩ (Sub.cons rfl (Sub.cons rfl (Sub.cons rfl Sub.nil))) ?_
    clear HM ho264
    rintro k281 _ w282 ⟨v271, a272, a274, ho264, rfl, HM⟩
    obtain _ | k281 := k281
    · exact nomatch ((laws_toSignS.l0_z x0 a272 a274).symm.trans ho264)
    replace ho264 := (laws_toSignS.l0_s x0 k281 a272 a274).symm.trans ho264
    refine run_seq ?_
    refine run_seq ?_
    refine run_region rfl ?_
    refine ops_ex rfl (guard_none rfl) rfl rfl (ex_move rfl rfl) ?_
    refine ops_ex rfl (guard_none rfl) rfl rfl (ex_move rfl rfl) ?_
    refine ops_ex rfl (guard_none rfl) rfl rfl (ex_len (d := kSign) (xs := x0) rfl rfl Try.underlying23 hp0) ?_
    refine ops_ex rfl (guard_none rfl) rfl rfl (ex_lss rfl rfl rfl) ?_
    refine ops_nil ?_
    refine at_then ?_
    refine run_cond (b := (decide (a274 < (x0.length : Int)))) rfl (fun hb283 => ?_) (fun hb283 => ?_)
    · replace ho264 := cond_t hb283 ho264
      refine run_skip ?_
      refine at_then ?_
      refine run_seq ?_
      refine run_block ?_
      obtain ⟨e284, ho264⟩ := chk_some ho264
      obtain ⟨t286, h287, ho264⟩ := bind_some ho264
      obtain ⟨e288, ho264⟩ := chk_some ho264
      refine run_region rfl ?_
      refine ops_ex rfl (guard_none rfl) rfl rfl (ex_move rfl rfl) ?_
      refine ops_ex rfl (guard_none rfl) rfl rfl (ex_move rfl rfl) ?_
      refine ops_ex rfl (guard_none rfl) rfl rfl (ex_move rfl rfl) ?_
      refine ops_ex rfl (guard_none rfl) rfl rfl (ex_move rfl rfl) ?_
      have hc285 : CellsAt _ (sb p0) (so p0 + (a274).toNat * 2) [(.int .i64 ((gt x0 a274).fKey)), (.int .i64 ((gt x0 a274).fId))] := rd_plain hp0 e284
      refine ops_ex rfl (guard_none rfl) rfl rfl (ex_indexAddr (d := kSign) rfl rfl rfl Try.underlying23 tsz164 hp0 (idx_lo e284) (idx_hi e284)) ?_
      refine ops_ex rfl (guard_none rfl) rfl rfl (ex_loadN (cs := [(.int .i64 ((gt x0 a274).fKey)), (.int .i64 ((gt x0 a274).fId))]) rfl rfl Try.underlying164 rfl tsz164 rfl ((HM.at_ hc285).sub 0 2 rfl)) ?_
      refine ops_does rfl (guard_none rfl) rfl rfl (does_callk rfl callok109 rfl (laws_toSign.calls (x0 := (gt x0 a274)) h287)) ?_
      rintro _ w289 ⟨rfl, hn⟩
      replace HM : Mem w [] w289 [own kSign 161 v271 a272] := HM.call hn
      refine ops_ex rfl (guard_none rfl) rfl rfl (ex_indexAddr (d := kSign) rfl rfl rfl Try.underlying27 tsz161 (HM.own_rd 0 rfl) (idx_lo e288) (idx_hi e288)) ?_
      refine ops_doesS rfl (guard_none rfl) rfl (does_setElem (vs := [(.int .i64 t286.fKey), (.int .i64 t286.fId)]) (y := t286) kSign rfl rfl rfl rfl rfl tsz161 rfl rfl (idx_nat e288) (fun _ _ h => ⟨rfl, h⟩) (HM.emp.front 1 rfl rfl)) ?_
      rintro w290 HM
      refine ops_nil ?_
      refine at_block ?_
      refine at_then ?_
      refine run_region rfl ?_
      refine ops_ex rfl (guard_none rfl) rfl rfl (ex_move rfl rfl) ?_
      refine ops_ex rfl (guard_none rfl) rfl rfl (ex_add rfl rfl rfl) ?_
      refine ops_ex rfl (guard_none rfl) rfl rfl (ex_assign rfl rfl) ?_
      refine ops_nil ?_
      exact at_again k281 (ρ1 := [(0, p0), (3, v271), (4, .int .i64 (wrap64 (a274 + 1)))]) (Nat.lt_succ_self _) ⟨_, _, _, ho264, rfl, HM⟩ (Sub.cons rfl (Sub.cons rfl (Sub.cons rfl Sub.nil)))
    · replace ho264 := cond_f hb283 ho264
      refine run_exit ?_
      refine at_then_exit ?_
      refine at_then_exit ?_
      refine at_block_exit ?_
      exact at_mid (ρ' := [(3, v271)]) ⟨_, _, (Option.some.inj ho264), rfl, HM⟩ (Sub.cons rfl Sub.nil)
  · rintro _ w291 ⟨v260, a261, rfl, rfl, HM⟩
    refine run_seq ?_
    refine run_region rfl ?_
    refine ops_ex rfl (guard_none rfl) rfl rfl (ex_move rfl rfl) ?_
    refine ops_ex rfl (guard_none rfl) rfl rfl (ex_assign rfl rfl) ?_
    refine ops_nil ?_
    refine at_then ?_
    refine run_ret ?_
    have hR := Option.some.inj H
    subst hR
    exact at_ret1 rfl rfl ⟨_, rfl, _, rfl, HM⟩

def laws_toLedger.f (k : Nat) (x0 : Ledger) : Option Ledger := ((laws_toStringS.f k x0.fTexts).bind fun t308 => ((laws_toSignS.f k x0.fSigns).bind fun t314 => some (⟨t308, t314⟩ : Ledger)))
theorem laws_toLedger.calls {k : Nat} {x0 : Ledger} {p0_0 : Value} {p0_1 : Value} {w : World} (hp0_0 : RdS kStr w p0_0 x0.fTexts) (hp0_1 : RdS kSign w p0_1 x0.fSigns) {r : Ledger} (H : laws_toLedger.f k x0 = some r) :
    Calls Try.prog 11 ([.agg #[p0_0, p0_1]] : List Value).toArray w (fun e w_ => ∃ v, e = .returned v ∧ ∃ u0 : Value, ∃ u1 : Value, v = (.agg #[u0, u1]) ∧ Mem w [] w_ [own kStr 9 u0 r.fTexts, own kSign 161 u1 r.fSigns]) := by
  have HM := Mem.start w
  refine calls_run (N := 13) Try.func11 rfl rfl rfl rfl ?_
  unfold laws_toLedger.f at H
  refine run_seq ?_
  refine run_region rfl ?_
  refine ops_does rfl (guard_none rfl) rfl rfl (does_box (cs := [p0_0, p0_1]) rfl rfl rfl HM) ?_
  rintro _ w302 ⟨b296, rfl, HM⟩
  refine ops_does rfl (guard_none rfl) rfl rfl (does_alloc (cs := [.slice none 0 0, .slice none 0 0]) rfl tz29 rfl HM) ?_
  rintro _ w303 ⟨b299, rfl, HM⟩
  refine ops_nil ?_
  refine at_then ?_
  refine run_seq ?_
  refine run_region rfl ?_
  refine ops_does rfl (guard_none rfl) rfl rfl (does_alloc (cs := [.slice none 0 0, .slice none 0 0]) rfl tz29 rfl HM) ?_
  rintro _ w307 ⟨b304, rfl, HM⟩
  refine ops_nil ?_
  refine at_then ?_
  refine run_seq ?_
  obtain ⟨t308, h309, H⟩ := bind_some H
  refine run_region rfl ?_
  refine ops_ex rfl (guard_none rfl) rfl rfl (ex_fieldAddr (off' := 0) rfl rfl Try.underlying25 rfl tsz22 rfl) ?_
  refine ops_ex rfl (guard_none rfl) rfl rfl (ex_load1 rfl rfl Try.underlying22 rfl ((HM.box_at 2 rfl) 0 _ rfl)) ?_
  refine ops_does rfl (guard_none rfl) rfl rfl (does_callk rfl callok61 rfl (laws_toStringS.calls (x0 := x0.fTexts) (HM.rd hp0_0) h309)) ?_
  rintro u310 w312 ⟨_, rfl, hn⟩
  replace HM : Mem w [] w312 [own kStr 9 u310 t308, box b304 29 [.slice none 0 0, .slice none 0 0], box b299 29 [.slice none 0 0, .slice none 0 0], box b296 25 [p0_0, p0_1]] := HM.call hn
  refine ops_ex rfl (guard_none rfl) rfl rfl (ex_fieldAddr (off' := 0) rfl rfl Try.underlying29 rfl tsz22 rfl) ?_
  replace HM := HM.front 1 rfl rfl
  refine ops_doesS rfl (guard_none rfl) rfl (does_store (vs := [u310]) (cs' := [u310, .slice none 0 0]) rfl rfl rfl (rd_cells (HM.own_rd 1 rfl)) tsz22 (Ones.rd (HM.own_rd 1 rfl) Ones.nil) rfl rfl HM) ?_
  rintro w313 HM
  refine ops_nil ?_
  refine at_then ?_
  refine run_seq ?_
  obtain ⟨t314, h315, H⟩ := bind_some H
  refine run_region rfl ?_
  refine ops_ex rfl (guard_none rfl) rfl rfl (ex_fieldAddr (off' := 1) rfl rfl Try.underlying25 rfl tsz23 rfl) ?_
  refine ops_ex rfl (guard_none rfl) rfl rfl (ex_load1 rfl rfl Try.underlying23 rfl ((HM.box_at 3 rfl) 1 _ rfl)) ?_
  refine ops_does rfl (guard_none rfl) rfl rfl (does_callk rfl callok62 rfl (laws_toSignS.calls (x0 := x0.fSigns) (HM.rd hp0_1) h315)) ?_
  rintro u316 w318 ⟨_, rfl, hn⟩
  replace HM : Mem w [] w318 [own kSign 161 u316 t314, box b304 29 [u310, .slice none 0 0], own kStr 9 u310 t308, box b299 29 [.slice none 0 0, .slice none 0 0], box b296 25 [p0_0, p0_1]] := HM.call hn
  refine ops_ex rfl (guard_none rfl) rfl rfl (ex_fieldAddr (off' := 1) rfl rfl Try.underlying29 rfl tsz27 rfl) ?_
  replace HM := HM.front 1 rfl rfl
  refine ops_doesS rfl (guard_none rfl) rfl (does_store (vs := [u316]) (cs' := [u310, u316]) rfl rfl rfl (rd_cells (HM.own_rd 1 rfl)) tsz27 (Ones.rd (HM.own_rd 1 rfl) Ones.nil) rfl rfl HM) ?_
  rintro w319 HM
  refine ops_nil ?_
  refine at_then ?_
  refine run_seq ?_
  refine run_region rfl ?_
  refine ops_ex rfl (guard_none rfl) rfl rfl (ex_loadN (cs := [u310, u316]) rfl rfl Try.underlying29 rfl tsz29 rfl ((HM.box_at 0 rfl).sub 0 2 rfl)) ?_
  replace HM := HM.front 3 rfl rfl
  refine ops_doesS rfl (guard_none rfl) rfl (does_store (vs := [u310, u316]) (cs' := [u310, u316]) rfl rfl rfl rfl tsz29 (Ones.rd (HM.own_rd 3 rfl) (Ones.rd (HM.own_rd 2 rfl) Ones.nil)) rfl rfl HM) ?_
  rintro w320 HM
  refine ops_nil ?_
  refine at_then ?_
  refine run_ret ?_
  replace HM := (HM.front 1 rfl rfl).drop
  replace HM := (HM.front 3 rfl rfl).drop
  replace HM := HM.front 1 rfl rfl
  replace HM := HM.front 2 rfl rfl
  replace HM := HM.front 2 rfl rfl
  have hcb0 := HM.box_at 0 rfl
  replace HM := (HM.front 0 rfl rfl).drop
  have hR := Option.some.inj H
  subst hR
  exact at_retN rfl rfl Try.underlying29 rfl tsz29 rfl hcb0 ⟨_, rfl, _, _, rfl, HM⟩

def spec_l1At.l0 (x0 : List ByteArray) (x1 : ByteArray) : Nat → Int → Option (Int ⊕ Unit)
  | 0, _ => none
  | k + 1, a386 => (bif (decide (a386 < (x0.length : Int))) then (chk (idxOk a386 x0.length) (bif (sEq (gt x0 a386) x1) then some (.inl (wrap64 (a386 + 1))) else spec_l1At.l0 x0 x1 k (wrap64 (a386 + 1)))) else some (.inr ()))
theorem spec_l1At.l0_z (x0 : List ByteArray) (x1 : ByteArray) (a386 : Int) : spec_l1At.l0 x0 x1 0 a386 = none := rfl
theorem spec_l1At.l0_s (x0 : List ByteArray) (x1 : ByteArray) (k : Nat) (a386 : Int) : spec_l1At.l0 x0 x1 (k + 1) a386 = (bif (decide (a386 < (x0.length : Int))) then (chk (idxOk a386 x0.length) (bif (sEq (gt x0 a386) x1) then some (.inl (wrap64 (a386 + 1))) else spec_l1At.l0 x0 x1 k (wrap64 (a386 + 1)))) else some (.inr ())) := rfl
def spec_l1At.f (k : Nat) (x0 : List ByteArray) (x1 : ByteArray) : Option Int := ((spec_l1At.l0 x0 x1 k 0).bind fun o380 => thn o380 (fun r => some r) (fun _ => some 0))
theorem spec_l1At.calls {k : Nat} {x0 : List ByteArray} {x1 : ByteArray} {p0 : Value} {w : World} (hp0 : RdS kStr w p0 x0) {r : Int} (H : spec_l1At.f k x0 x1 = some r) :
    Calls Try.prog 60 ([p0, .string x1] : List Value).toArray w (fun e w_ => ∃ v, e = .returned v ∧ v = (.int .i64 r) ∧ Mem w [] w_ []) := by
  have HM := Mem.start w
  refine calls_run (N := 20) Try.func60 rfl rfl rfl rfl ?_
  unfold spec_l1At.f at H
  refine run_seq ?_
  refine run_region rfl ?_
  refine ops_ex rfl (guard_none rfl) rfl rfl (ex_assign rfl rfl) ?_
  refine ops_nil ?_
  refine at_then ?_
  obtain ⟨o380, ho381, H⟩ := bind_some H
  refine run_mid (fun ρ_ w_ => Sum.inr () = o380 ∧ ρ_ = [] ∧ Mem w [] w_ []) ?_ ?_
  · skip
    refine run_seq ?_
    refine run_region rfl ?_
    refine ops_ex rfl (guard_none rfl) rfl rfl (ex_assign rfl rfl) ?_
    refine ops_nil ?_
    refine at_then ?_
    refine run_block ?_
    refine run_loop (fun k_ ρ_ w_ => ∃ a386 : Int, spec_l1At.l0 x0 x1 k_ a386 = some o380 ∧ ρ_ = [(0, p0), (1, .string x1), (5, .int .i64 a386)] ∧ Mem w [] w_ []) k (ρ1 := [(0, p0), (1, .string x1), (5, .int .i64 0)]) ⟨_, ho381, rfl, HM⟩ (Sub.cons rfl (Sub.cons rfl (Sub.cons rfl Sub.nil))) ?_
    clear HM ho381
    rintro k391 _ w392 ⟨a386, ho381, rfl, HM⟩
    obtain _ | k391 := k391
    · exact nomatch ((spec_l1At.l0_z x0 x1 a386).symm.trans ho381)
    replace ho381 := (spec_l1At.l0_s x0 x1 k391 a386).symm.trans ho381
    refine run_seq ?_
    refine run_seq ?_
    refine run_region rfl ?_
    refine ops_ex rfl (guard_none rfl) rfl rfl (ex_move rfl rfl) ?_
    refine ops_ex rfl (guard_none rfl) rfl rfl (ex_move rfl rfl) ?_
    refine ops_ex rfl (guard_none rfl) rfl rfl (ex_len (d := kStr) (xs := x0) rfl rfl Try.underlying22 hp0) ?_
    refine ops_ex rfl (guard_none rfl) rfl rfl (ex_lss rfl rfl rfl) ?_
    refine ops_nil ?_
    refine at_then ?_
    refine run_cond (b := (decide (a386 < (x0.length : Int)))) rfl (fun hb393 => ?_) (fun hb393 => ?_)
    · replace ho381 := cond_t hb393 ho381
      refine run_skip ?_
      refine at_then ?_
      refine run_seq ?_
      refine run_block ?_
      refine run_seq ?_
      obtain ⟨e394, ho381⟩ := chk_some ho381
      refine run_region rfl ?_
      refine ops_ex rfl (guard_none rfl) rfl rfl (ex_move rfl rfl) ?_
      refine ops_ex rfl (guard_none rfl) rfl rfl (ex_move rfl rfl) ?_
      have hc395 : CellsAt _ (sb p0) (so p0 + (a386).toNat * 1) [(.string (gt x0 a386))] := rd_plain hp0 e394
      refine ops_ex rfl (guard_none rfl) rfl rfl (ex_indexAddr (d := kStr) rfl rfl rfl Try.underlying22 tsz9 hp0 (idx_lo e394) (idx_hi e394)) ?_
      refine ops_ex rfl (guard_none rfl) rfl rfl (ex_load1 rfl rfl Try.underlying9 rfl ((HM.at_ hc395) 0 _ rfl)) ?_
      refine ops_ex rfl (guard_none rfl) rfl rfl (ex_move rfl rfl) ?_
      refine ops_ex rfl (guard_none rfl) rfl rfl (ex_seql rfl rfl rfl) ?_
      refine ops_nil ?_
      refine at_then ?_
      refine run_cond (b := (sEq (gt x0 a386) x1)) rfl (fun hb396 => ?_) (fun hb396 => ?_)
      · replace ho381 := cond_t hb396 ho381
        refine run_seq ?_
        refine run_region rfl ?_
        refine ops_ex rfl (guard_none rfl) rfl rfl (ex_move rfl rfl) ?_
        refine ops_ex rfl (guard_none rfl) rfl rfl (ex_add rfl rfl rfl) ?_
        refine ops_ex rfl (guard_none rfl) rfl rfl (ex_assign rfl rfl) ?_
        refine ops_nil ?_
        refine at_then ?_
        refine run_ret ?_
        refine at_block_ret ?_
        refine at_then_ret ?_
        refine at_then_ret ?_
        refine at_block_ret ?_
        refine at_then_ret ?_
        have hR := Option.some.inj ho381
        subst hR
        have hT := thn_inl H
        have hR := Option.some.inj hT
        subst hR
        exact at_ret1 rfl rfl ⟨_, rfl, rfl, HM⟩
      · replace ho381 := cond_f hb396 ho381
        refine run_skip ?_
        refine at_block ?_
        refine at_then ?_
        refine run_region rfl ?_
        refine ops_ex rfl (guard_none rfl) rfl rfl (ex_move rfl rfl) ?_
        refine ops_ex rfl (guard_none rfl) rfl rfl (ex_add rfl rfl rfl) ?_
        refine ops_ex rfl (guard_none rfl) rfl rfl (ex_assign rfl rfl) ?_
        refine ops_nil ?_
        exact at_again k391 (ρ1 := [(0, p0), (1, .string x1), (5, .int .i64 (wrap64 (a386 + 1)))]) (Nat.lt_succ_self _) ⟨_, ho381, rfl, HM⟩ (Sub.cons rfl (Sub.cons rfl (Sub.cons rfl Sub.nil)))
    · replace ho381 := cond_f hb393 ho381
      refine run_exit ?_
      refine at_then_exit ?_
      refine at_then_exit ?_
      refine at_block_exit ?_
      exact at_mid (ρ' := []) ⟨(Option.some.inj ho381), rfl, HM⟩ Sub.nil
  · rintro _ w397 ⟨rfl, rfl, HM⟩
    replace H := (thn_inr H)
    refine run_seq ?_
    refine run_region rfl ?_
    refine ops_ex rfl (guard_none rfl) rfl rfl (ex_assign rfl rfl) ?_
    refine ops_nil ?_
    refine at_then ?_
    refine run_ret ?_
    have hR := Option.some.inj H
    subst hR
    exact at_ret1 rfl rfl ⟨_, rfl, rfl, HM⟩

def spec_l1In.f (k : Nat) (x0 : Int) (x1 : Int) (x2 : Int) : Option Bool := some ((decide (x1 ≤ x0)) && (decide (x0 ≤ x2)))
theorem spec_l1In.calls {k : Nat} {x0 : Int} {x1 : Int} {x2 : Int}  {w : World}  {r : Bool} (H : spec_l1In.f k x0 x1 x2 = some r) :
    Calls Try.prog 88 ([.int .i64 x0, .int .i64 x1, .int .i64 x2] : List Value).toArray w (fun e w_ => ∃ v, e = .returned v ∧ v = (.bool r) ∧ Mem w [] w_ []) := by
  have HM := Mem.start w
  refine calls_run (N := 15) Try.func88 rfl rfl rfl rfl ?_
  unfold spec_l1In.f at H
  refine run_seq ?_
  refine run_region rfl ?_
  refine ops_ex rfl (guard_none rfl) rfl rfl (ex_assign rfl rfl) ?_
  refine ops_nil ?_
  refine at_then ?_
  refine run_seq ?_
  refine run_meet (fun ρ_ w_ => ρ_ = [(6, .bool ((decide (x1 ≤ x0)) && (decide (x0 ≤ x2))))] ∧ Mem w [] w_ []) ?_ ?_
  · skip
    refine run_region rfl ?_
    refine ops_ex rfl (guard_none rfl) rfl rfl (ex_move rfl rfl) ?_
    refine ops_ex rfl (guard_none rfl) rfl rfl (ex_move rfl rfl) ?_
    refine ops_ex rfl (guard_none rfl) rfl rfl (ex_geq rfl rfl rfl) ?_
    refine ops_ex rfl (guard_none rfl) rfl rfl (ex_move rfl rfl) ?_
    refine bool_cases (decide (x1 ≤ x0)) (fun hg447 => ?_) (fun hg447 => ?_)
    · skip
      refine ops_ex rfl (guard_on rfl rfl rfl hg447) rfl rfl (ex_move rfl rfl) ?_
      refine ops_ex rfl (guard_on rfl rfl rfl hg447) rfl rfl (ex_move rfl rfl) ?_
      refine ops_ex rfl (guard_on rfl rfl rfl hg447) rfl rfl (ex_leq rfl rfl rfl) ?_
      refine ops_ex (v := .bool ((decide (x1 ≤ x0)) && (decide (x0 ≤ x2)))) rfl (guard_none rfl) rfl rfl (ex_pand_t rfl rfl hg447 rfl) ?_
      refine ops_ex rfl (guard_none rfl) rfl rfl (ex_assign rfl rfl) ?_
      refine ops_nil ?_
      exact at_meet [(6, .bool ((decide (x1 ≤ x0)) && (decide (x0 ≤ x2))))] ⟨rfl, HM⟩ (Sub.cons rfl Sub.nil)
    · skip
      refine ops_off rfl (guard_off rfl rfl rfl hg447) rfl rfl ?_
      refine ops_off rfl (guard_off rfl rfl rfl hg447) rfl rfl ?_
      refine ops_off rfl (guard_off rfl rfl rfl hg447) rfl rfl ?_
      have hg448 : ((decide (x1 ≤ x0)) && (decide (x0 ≤ x2))) = false := by simp only [hg447, Bool.and_true, Bool.true_and, Bool.and_false, Bool.false_and, Bool.or_true, Bool.true_or, Bool.or_false, Bool.false_or, Bool.not_true, Bool.not_false, Bool.not_not]
      refine ops_ex (v := .bool ((decide (x1 ≤ x0)) && (decide (x0 ≤ x2)))) rfl (guard_none rfl) rfl rfl (ex_pand_f rfl rfl hg447) ?_
      refine ops_ex rfl (guard_none rfl) rfl rfl (ex_assign rfl rfl) ?_
      refine ops_nil ?_
      exact at_meet [(6, .bool ((decide (x1 ≤ x0)) && (decide (x0 ≤ x2))))] ⟨rfl, HM⟩ (Sub.cons rfl Sub.nil)
  · rintro _ w449 ⟨rfl, HM⟩
    refine at_then ?_
    refine run_ret ?_
    have hR := Option.some.inj H
    subst hR
    exact at_ret1 rfl rfl ⟨_, rfl, rfl, HM⟩

def spec_l1Key.f (k : Nat) (x0 : Int) : Option Bool := ((spec_l1In.f k x0 1 999).bind fun t452 => some t452)
theorem spec_l1Key.calls {k : Nat} {x0 : Int}  {w : World}  {r : Bool} (H : spec_l1Key.f k x0 = some r) :
    Calls Try.prog 107 ([.int .i64 x0] : List Value).toArray w (fun e w_ => ∃ v, e = .returned v ∧ v = (.bool r) ∧ Mem w [] w_ []) := by
  have HM := Mem.start w
  refine calls_run (N := 5) Try.func107 rfl rfl rfl rfl ?_
  unfold spec_l1Key.f at H
  refine run_seq ?_
  refine run_region rfl ?_
  refine ops_ex rfl (guard_none rfl) rfl rfl (ex_assign rfl rfl) ?_
  refine ops_nil ?_
  refine at_then ?_
  refine run_seq ?_
  obtain ⟨t452, h453, H⟩ := bind_some H
  refine run_region rfl ?_
  refine ops_ex rfl (guard_none rfl) rfl rfl (ex_move rfl rfl) ?_
  refine ops_does rfl (guard_none rfl) rfl rfl (does_callk rfl callok88 rfl (spec_l1In.calls (x0 := x0) (x1 := 1) (x2 := 999) h453)) ?_
  rintro _ w454 ⟨rfl, hn⟩
  replace HM : Mem w [] w454 [] := HM.call hn
  refine ops_ex rfl (guard_none rfl) rfl rfl (ex_assign rfl rfl) ?_
  refine ops_nil ?_
  refine at_then ?_
  refine run_ret ?_
  have hR := Option.some.inj H
  subst hR
  exact at_ret1 rfl rfl ⟨_, rfl, rfl, HM⟩

def spec_l1Signed.l0 (x0 : List Sign) (x1 : Sign) : Nat → Int → Option (Bool ⊕ Unit)
  | 0, _ => none
  | k + 1, a518 => (bif (decide (a518 < (x0.length : Int))) then (chk (idxOk a518 x0.length) (bif ((((gt x0 a518).fKey) == x1.fKey) && (((gt x0 a518).fId) == x1.fId)) then some (.inl true) else spec_l1Signed.l0 x0 x1 k (wrap64 (a518 + 1)))) else some (.inr ()))
theorem spec_l1Signed.l0_z (x0 : List Sign) (x1 : Sign) (a518 : Int) : spec_l1Signed.l0 x0 x1 0 a518 = none := rfl
theorem spec_l1Signed.l0_s (x0 : List Sign) (x1 : Sign) (k : Nat) (a518 : Int) : spec_l1Signed.l0 x0 x1 (k + 1) a518 = (bif (decide (a518 < (x0.length : Int))) then (chk (idxOk a518 x0.length) (bif ((((gt x0 a518).fKey) == x1.fKey) && (((gt x0 a518).fId) == x1.fId)) then some (.inl true) else spec_l1Signed.l0 x0 x1 k (wrap64 (a518 + 1)))) else some (.inr ())) := rfl
def spec_l1Signed.f (k : Nat) (x0 : List Sign) (x1 : Sign) : Option Bool := ((spec_l1Signed.l0 x0 x1 k 0).bind fun o512 => thn o512 (fun r => some r) (fun _ => some false))
theorem spec_l1Signed.calls {k : Nat} {x0 : List Sign} {x1 : Sign} {p0 : Value} {w : World} (hp0 : RdS kSign w p0 x0) {r : Bool} (H : spec_l1Signed.f k x0 x1 = some r) :
    Calls Try.prog 108 ([p0, .agg #[(.int .i64 x1.fKey), (.int .i64 x1.fId)]] : List Value).toArray w (fun e w_ => ∃ v, e = .returned v ∧ v = (.bool r) ∧ Mem w [] w_ []) := by
  have HM := Mem.start w
  refine calls_run (N := 18) Try.func108 rfl rfl rfl rfl ?_
  unfold spec_l1Signed.f at H
  refine run_seq ?_
  refine run_region rfl ?_
  refine ops_does rfl (guard_none rfl) rfl rfl (does_box (cs := [.int .i64 x1.fKey, .int .i64 x1.fId]) rfl rfl rfl HM) ?_
  rintro _ w498 ⟨b495, rfl, HM⟩
  refine ops_ex rfl (guard_none rfl) rfl rfl (ex_assign rfl rfl) ?_
  refine ops_nil ?_
  refine at_then ?_
  obtain ⟨o512, ho513, H⟩ := bind_some H
  refine run_mid (fun ρ_ w_ => Sum.inr () = o512 ∧ ρ_ = [] ∧ Mem w [] w_ []) ?_ ?_
  · skip
    refine run_seq ?_
    refine run_region rfl ?_
    refine ops_ex rfl (guard_none rfl) rfl rfl (ex_assign rfl rfl) ?_
    refine ops_nil ?_
    refine at_then ?_
    refine run_block ?_
    refine run_loop (fun k_ ρ_ w_ => ∃ a518 : Int, spec_l1Signed.l0 x0 x1 k_ a518 = some o512 ∧ ρ_ = [(0, p0), (3, .pointer (some ⟨b495, 0, none⟩)), (5, .int .i64 a518)] ∧ Mem w [] w_ [box b495 161 [.int .i64 x1.fKey, .int .i64 x1.fId]]) k (ρ1 := [(0, p0), (3, .pointer (some ⟨b495, 0, none⟩)), (5, .int .i64 0)]) ⟨_, ho513, rfl, HM⟩ (Sub.cons rfl (Sub.cons rfl (Sub.cons rfl Sub.nil))) ?_
    clear HM ho513
    rintro k523 _ w524 ⟨a518, ho513, rfl, HM⟩
    obtain _ | k523 := k523
    · exact nomatch ((spec_l1Signed.l0_z x0 x1 a518).symm.trans ho513)
    replace ho513 := (spec_l1Signed.l0_s x0 x1 k523 a518).symm.trans ho513
    refine run_seq ?_
    refine run_seq ?_
    refine run_region rfl ?_
    refine ops_ex rfl (guard_none rfl) rfl rfl (ex_move rfl rfl) ?_
    refine ops_ex rfl (guard_none rfl) rfl rfl (ex_move rfl rfl) ?_
    refine ops_ex rfl (guard_none rfl) rfl rfl (ex_len (d := kSign) (xs := x0) rfl rfl Try.underlying27 hp0) ?_
    refine ops_ex rfl (guard_none rfl) rfl rfl (ex_lss rfl rfl rfl) ?_
    refine ops_nil ?_
    refine at_then ?_
    refine run_cond (b := (decide (a518 < (x0.length : Int)))) rfl (fun hb525 => ?_) (fun hb525 => ?_)
    · replace ho513 := cond_t hb525 ho513
      refine run_skip ?_
      refine at_then ?_
      refine run_seq ?_
      refine run_block ?_
      refine run_seq ?_
      obtain ⟨e526, ho513⟩ := chk_some ho513
      refine run_drawf (fun w_ => Mem w [] w_ [box b495 161 [.int .i64 x1.fKey, .int .i64 x1.fId]]) [(0, true), (1, true), (2, true), (3, true), (4, true), (5, true)] mixed rfl rfl (by kernel_rfl) ?_
      replace HM := HM.grow (fr_drew _)
      have hS := Mem.suf (M := []) HM
      refine drwp_take rfl (guard_none rfl) rfl rfl (fun w_ hS_ => (ex_move rfl rfl)) hS ?_
      refine drwp_take rfl (guard_none rfl) rfl rfl (fun w_ hS_ => (ex_move rfl rfl)) hS ?_
      have hc527 : CellsAt _ (sb p0) (so p0 + (a518).toNat * 2) [(.int .i64 ((gt x0 a518).fKey)), (.int .i64 ((gt x0 a518).fId))] := rd_plain hp0 e526
      refine drwp_take rfl (guard_none rfl) rfl rfl (fun w_ hS_ => (ex_indexAddr (d := kSign) rfl rfl rfl Try.underlying27 tsz161 hp0 (idx_lo e526) (idx_hi e526))) hS ?_
      refine drwp_take rfl (guard_none rfl) rfl rfl (fun w_ hS_ => (ex_loadN (cs := [(.int .i64 ((gt x0 a518).fKey)), (.int .i64 ((gt x0 a518).fId))]) rfl rfl Try.underlying161 rfl tsz161 rfl ((hS_.at_ hc527).sub 0 2 rfl))) hS ?_
      refine drwp_take rfl (guard_none rfl) rfl rfl (fun w_ hS_ => (ex_loadN (cs := [(.int .i64 x1.fKey), (.int .i64 x1.fId)]) rfl rfl Try.underlying161 rfl tsz161 rfl ((hS_.box_at 0 rfl).sub 0 2 rfl))) hS ?_
      refine drwp_take rfl (guard_none rfl) rfl rfl (fun w_ hS_ => (ex_aeql rfl rfl rfl (by kernel_rfl) (eqs161 _ _ _ _ _))) hS ?_
      refine drwp_done ?_
      refine at_then ?_
      refine run_cond (b := ((((gt x0 a518).fKey) == x1.fKey) && (((gt x0 a518).fId) == x1.fId))) rfl (fun hb528 => ?_) (fun hb528 => ?_)
      · replace ho513 := cond_t hb528 ho513
        refine run_seq ?_
        refine run_region rfl ?_
        refine ops_ex rfl (guard_none rfl) rfl rfl (ex_assign rfl rfl) ?_
        refine ops_nil ?_
        refine at_then ?_
        refine run_ret ?_
        refine at_block_ret ?_
        refine at_then_ret ?_
        refine at_then_ret ?_
        refine at_block_ret ?_
        refine at_then_ret ?_
        replace HM := (HM.front 0 rfl rfl).drop
        have hR := Option.some.inj ho513
        subst hR
        have hT := thn_inl H
        have hR := Option.some.inj hT
        subst hR
        exact at_ret1 rfl rfl ⟨_, rfl, rfl, HM⟩
      · replace ho513 := cond_f hb528 ho513
        refine run_skip ?_
        refine at_block ?_
        refine at_then ?_
        refine run_region rfl ?_
        refine ops_ex rfl (guard_none rfl) rfl rfl (ex_move rfl rfl) ?_
        refine ops_ex rfl (guard_none rfl) rfl rfl (ex_add rfl rfl rfl) ?_
        refine ops_ex rfl (guard_none rfl) rfl rfl (ex_assign rfl rfl) ?_
        refine ops_nil ?_
        exact at_again k523 (ρ1 := [(0, p0), (3, .pointer (some ⟨b495, 0, none⟩)), (5, .int .i64 (wrap64 (a518 + 1)))]) (Nat.lt_succ_self _) ⟨_, ho513, rfl, HM⟩ (Sub.cons rfl (Sub.cons rfl (Sub.cons rfl Sub.nil)))
    · replace ho513 := cond_f hb525 ho513
      refine run_exit ?_
      refine at_then_exit ?_
      refine at_then_exit ?_
      refine at_block_exit ?_
      replace HM := (HM.front 0 rfl rfl).drop
      exact at_mid (ρ' := []) ⟨(Option.some.inj ho513), rfl, HM⟩ Sub.nil
  · rintro _ w529 ⟨rfl, rfl, HM⟩
    replace H := (thn_inr H)
    refine run_seq ?_
    refine run_region rfl ?_
    refine ops_ex rfl (guard_none rfl) rfl rfl (ex_assign rfl rfl) ?_
    refine ops_nil ?_
    refine at_then ?_
    refine run_ret ?_
    have hR := Option.some.inj H
    subst hR
    exact at_ret1 rfl rfl ⟨_, rfl, rfl, HM⟩

def spec_l1Fault.l0 (x0 : Ledger) : Nat → Int → Option (Int ⊕ Unit)
  | 0, _ => none
  | k + 1, a680 => (bif (decide (a680 < (x0.fTexts.length : Int))) then (chk (idxOk a680 x0.fTexts.length) (chk (!(!(decide (((gt x0.fTexts a680).size : Int) < 1))) || (idxOk a680 x0.fTexts.length)) (bif ((decide (((gt x0.fTexts a680).size : Int) < 1)) || (decide (300 < ((gt x0.fTexts a680).size : Int)))) then some (.inl 2) else (chk (cutOk a680 x0.fTexts.length) (chk (idxOk a680 x0.fTexts.length) ((spec_l1At.f k (x0.fTexts.take (a680).toNat) (gt x0.fTexts a680)).bind fun t723 => (bif (decide (0 < t723)) then some (.inl 7) else spec_l1Fault.l0 x0 k (wrap64 (a680 + 1))))))))) else some (.inr ()))
theorem spec_l1Fault.l0_z (x0 : Ledger) (a680 : Int) : spec_l1Fault.l0 x0 0 a680 = none := rfl
theorem spec_l1Fault.l0_s (x0 : Ledger) (k : Nat) (a680 : Int) : spec_l1Fault.l0 x0 (k + 1) a680 = (bif (decide (a680 < (x0.fTexts.length : Int))) then (chk (idxOk a680 x0.fTexts.length) (chk (!(!(decide (((gt x0.fTexts a680).size : Int) < 1))) || (idxOk a680 x0.fTexts.length)) (bif ((decide (((gt x0.fTexts a680).size : Int) < 1)) || (decide (300 < ((gt x0.fTexts a680).size : Int)))) then some (.inl 2) else (chk (cutOk a680 x0.fTexts.length) (chk (idxOk a680 x0.fTexts.length) ((spec_l1At.f k (x0.fTexts.take (a680).toNat) (gt x0.fTexts a680)).bind fun t723 => (bif (decide (0 < t723)) then some (.inl 7) else spec_l1Fault.l0 x0 k (wrap64 (a680 + 1))))))))) else some (.inr ())) := rfl
def spec_l1Fault.l1 (x0 : Ledger) : Nat → Int → Option (Int ⊕ Unit)
  | 0, _ => none
  | k + 1, a843 => (bif (decide (a843 < (x0.fSigns.length : Int))) then (chk (idxOk a843 x0.fSigns.length) ((spec_l1Key.f k ((gt x0.fSigns a843).fKey)).bind fun t886 => (chk (!(!(!t886)) || (idxOk a843 x0.fSigns.length)) ((bif (!(!t886)) then spec_l1In.f k ((gt x0.fSigns a843).fId) 1 (x0.fTexts.length : Int) else some default).bind fun t890 => (bif ((!t886) || (!t890)) then some (.inl 3) else (chk (cutOk a843 x0.fSigns.length) (chk (idxOk a843 x0.fSigns.length) ((spec_l1Signed.f k (x0.fSigns.take (a843).toNat) (gt x0.fSigns a843)).bind fun t904 => (bif t904 then some (.inl 7) else spec_l1Fault.l1 x0 k (wrap64 (a843 + 1))))))))))) else some (.inr ()))
theorem spec_l1Fault.l1_z (x0 : Ledger) (a843 : Int) : spec_l1Fault.l1 x0 0 a843 = none := rfl
theorem spec_l1Fault.l1_s (x0 : Ledger) (k : Nat) (a843 : Int) : spec_l1Fault.l1 x0 (k + 1) a843 = (bif (decide (a843 < (x0.fSigns.length : Int))) then (chk (idxOk a843 x0.fSigns.length) ((spec_l1Key.f k ((gt x0.fSigns a843).fKey)).bind fun t886 => (chk (!(!(!t886)) || (idxOk a843 x0.fSigns.length)) ((bif (!(!t886)) then spec_l1In.f k ((gt x0.fSigns a843).fId) 1 (x0.fTexts.length : Int) else some default).bind fun t890 => (bif ((!t886) || (!t890)) then some (.inl 3) else (chk (cutOk a843 x0.fSigns.length) (chk (idxOk a843 x0.fSigns.length) ((spec_l1Signed.f k (x0.fSigns.take (a843).toNat) (gt x0.fSigns a843)).bind fun t904 => (bif t904 then some (.inl 7) else spec_l1Fault.l1 x0 k (wrap64 (a843 + 1))))))))))) else some (.inr ())) := rfl
def spec_l1Fault.f (k : Nat) (x0 : Ledger) : Option Int := (bif ((decide (60 < (x0.fTexts.length : Int))) || (decide (120 < (x0.fSigns.length : Int)))) then some 2 else ((spec_l1Fault.l0 x0 k 0).bind fun o658 => thn o658 (fun r => some r) (fun _ => ((spec_l1Fault.l1 x0 k 0).bind fun o813 => thn o813 (fun r => some r) (fun _ => some 0)))))
theorem spec_l1Fault.calls {k : Nat} {x0 : Ledger} {b0 f0 : Nat} {p0_0 : Value} {p0_1 : Value} {w : World} (hc0 : CellsAt w b0 f0 [p0_0, p0_1]) (hp0_0 : RdS kStr w p0_0 x0.fTexts) (hp0_1 : RdS kSign w p0_1 x0.fSigns) {r : Int} (H : spec_l1Fault.f k x0 = some r) :
    Calls Try.prog 58 ([.pointer (some ⟨b0, f0, none⟩)] : List Value).toArray w (fun e w_ => ∃ v, e = .returned v ∧ v = (.int .i64 r) ∧ Mem w [] w_ []) := by
  have HM := Mem.start w
  refine calls_run (N := 113) Try.func58 rfl rfl rfl rfl ?_
  unfold spec_l1Fault.f at H
  refine run_seq ?_
  refine run_region rfl ?_
  refine ops_ex rfl (guard_none rfl) rfl rfl (ex_assign rfl rfl) ?_
  refine ops_nil ?_
  refine at_then ?_
  refine run_seq ?_
  refine run_seq ?_
  refine run_meet (fun ρ_ w_ => ρ_ = [(0, .pointer (some ⟨b0, f0, none⟩)), (18, .bool ((decide (60 < (x0.fTexts.length : Int))) || (decide (120 < (x0.fSigns.length : Int)))))] ∧ Mem w [] w_ []) ?_ ?_
  · skip
    refine run_region rfl ?_
    refine ops_ex rfl (guard_none rfl) rfl rfl (ex_move rfl rfl) ?_
    refine ops_ex rfl (guard_none rfl) rfl rfl (ex_nilCheck rfl rfl) ?_
    refine ops_ex rfl (guard_none rfl) rfl rfl (ex_fieldAddr (off' := f0) rfl rfl Try.underlying29 rfl tsz22 rfl) ?_
    refine ops_ex rfl (guard_none rfl) rfl rfl (ex_load1 rfl rfl Try.underlying22 rfl ((HM.at_ hc0) 0 _ rfl)) ?_
    refine ops_ex rfl (guard_none rfl) rfl rfl (ex_len (d := kStr) (xs := x0.fTexts) rfl rfl Try.underlying22 hp0_0) ?_
    refine ops_ex rfl (guard_none rfl) rfl rfl (ex_gtr rfl rfl rfl) ?_
    refine ops_ex rfl (guard_none rfl) rfl rfl (ex_move rfl rfl) ?_
    refine bool_cases (decide (60 < (x0.fTexts.length : Int))) (fun hg593 => ?_) (fun hg593 => ?_)
    · skip
      refine ops_off rfl (guard_off rfl rfl rfl hg593) rfl rfl ?_
      refine ops_off rfl (guard_off rfl rfl rfl hg593) rfl rfl ?_
      refine ops_off rfl (guard_off rfl rfl rfl hg593) rfl rfl ?_
      refine ops_off rfl (guard_off rfl rfl rfl hg593) rfl rfl ?_
      refine ops_off rfl (guard_off rfl rfl rfl hg593) rfl rfl ?_
      refine ops_off rfl (guard_off rfl rfl rfl hg593) rfl rfl ?_
      have hg594 : ((decide (60 < (x0.fTexts.length : Int))) || (decide (120 < (x0.fSigns.length : Int)))) = true := by simp only [hg593, Bool.and_true, Bool.true_and, Bool.and_false, Bool.false_and, Bool.or_true, Bool.true_or, Bool.or_false, Bool.false_or, Bool.not_true, Bool.not_false, Bool.not_not]
      refine ops_ex (v := .bool ((decide (60 < (x0.fTexts.length : Int))) || (decide (120 < (x0.fSigns.length : Int))))) rfl (guard_none rfl) rfl rfl (ex_por_t rfl rfl hg593) ?_
      refine ops_nil ?_
      exact at_meet [(0, .pointer (some ⟨b0, f0, none⟩)), (18, .bool ((decide (60 < (x0.fTexts.length : Int))) || (decide (120 < (x0.fSigns.length : Int)))))] ⟨rfl, HM⟩ (Sub.cons rfl (Sub.cons rfl Sub.nil))
    · skip
      refine ops_ex rfl (guard_on rfl rfl rfl hg593) rfl rfl (ex_move rfl rfl) ?_
      refine ops_ex rfl (guard_on rfl rfl rfl hg593) rfl rfl (ex_nilCheck rfl rfl) ?_
      refine ops_ex rfl (guard_on rfl rfl rfl hg593) rfl rfl (ex_fieldAddr (off' := f0 + 1) rfl rfl Try.underlying29 rfl tsz27 rfl) ?_
      refine ops_ex rfl (guard_on rfl rfl rfl hg593) rfl rfl (ex_load1 rfl rfl Try.underlying27 rfl ((HM.at_ hc0) 1 _ rfl)) ?_
      refine ops_ex rfl (guard_on rfl rfl rfl hg593) rfl rfl (ex_len (d := kSign) (xs := x0.fSigns) rfl rfl Try.underlying27 hp0_1) ?_
      refine ops_ex rfl (guard_on rfl rfl rfl hg593) rfl rfl (ex_gtr rfl rfl rfl) ?_
      refine ops_ex (v := .bool ((decide (60 < (x0.fTexts.length : Int))) || (decide (120 < (x0.fSigns.length : Int))))) rfl (guard_none rfl) rfl rfl (ex_por_f rfl rfl hg593 rfl) ?_
      refine ops_nil ?_
      exact at_meet [(0, .pointer (some ⟨b0, f0, none⟩)), (18, .bool ((decide (60 < (x0.fTexts.length : Int))) || (decide (120 < (x0.fSigns.length : Int)))))] ⟨rfl, HM⟩ (Sub.cons rfl (Sub.cons rfl Sub.nil))
  · rintro _ w595 ⟨rfl, HM⟩
    refine at_then ?_
    refine run_cond (b := ((decide (60 < (x0.fTexts.length : Int))) || (decide (120 < (x0.fSigns.length : Int))))) rfl (fun hb596 => ?_) (fun hb596 => ?_)
    · replace H := cond_t hb596 H
      refine run_seq ?_
      refine run_region rfl ?_
      refine ops_ex rfl (guard_none rfl) rfl rfl (ex_assign rfl rfl) ?_
      refine ops_nil ?_
      refine at_then ?_
      refine run_ret ?_
      refine at_then_ret ?_
      have hR := Option.some.inj H
      subst hR
      exact at_ret1 rfl rfl ⟨_, rfl, rfl, HM⟩
    · replace H := cond_f hb596 H
      refine run_skip ?_
      refine at_then ?_
      obtain ⟨o658, ho659, H⟩ := bind_some H
      refine run_mid (fun ρ_ w_ => Sum.inr () = o658 ∧ ρ_ = [(0, .pointer (some ⟨b0, f0, none⟩))] ∧ Mem w [] w_ []) ?_ ?_
      · skip
        refine run_seq ?_
        refine run_region rfl ?_
        refine ops_ex rfl (guard_none rfl) rfl rfl (ex_assign rfl rfl) ?_
        refine ops_nil ?_
        refine at_then ?_
        refine run_block ?_
        refine run_loop (fun k_ ρ_ w_ => ∃ a680 : Int, spec_l1Fault.l0 x0 k_ a680 = some o658 ∧ ρ_ = [(0, .pointer (some ⟨b0, f0, none⟩)), (3, .int .i64 a680)] ∧ Mem w [] w_ []) k (ρ1 := [(0, .pointer (some ⟨b0, f0, none⟩)), (3, .int .i64 0)]) ⟨_, ho659, rfl, HM⟩ (Sub.cons rfl (Sub.cons rfl Sub.nil)) ?_
        clear HM ho659
        rintro k701 _ w702 ⟨a680, ho659, rfl, HM⟩
        obtain _ | k701 := k701
        · exact nomatch ((spec_l1Fault.l0_z x0 a680).symm.trans ho659)
        replace ho659 := (spec_l1Fault.l0_s x0 k701 a680).symm.trans ho659
        refine run_seq ?_
        refine run_seq ?_
        refine run_region rfl ?_
        refine ops_ex rfl (guard_none rfl) rfl rfl (ex_move rfl rfl) ?_
        refine ops_ex rfl (guard_none rfl) rfl rfl (ex_move rfl rfl) ?_
        refine ops_ex rfl (guard_none rfl) rfl rfl (ex_nilCheck rfl rfl) ?_
        refine ops_ex rfl (guard_none rfl) rfl rfl (ex_fieldAddr (off' := f0) rfl rfl Try.underlying29 rfl tsz22 rfl) ?_
        refine ops_ex rfl (guard_none rfl) rfl rfl (ex_load1 rfl rfl Try.underlying22 rfl ((HM.at_ hc0) 0 _ rfl)) ?_
        refine ops_ex rfl (guard_none rfl) rfl rfl (ex_len (d := kStr) (xs := x0.fTexts) rfl rfl Try.underlying22 hp0_0) ?_
        refine ops_ex rfl (guard_none rfl) rfl rfl (ex_lss rfl rfl rfl) ?_
        refine ops_nil ?_
        refine at_then ?_
        refine run_cond (b := (decide (a680 < (x0.fTexts.length : Int)))) rfl (fun hb703 => ?_) (fun hb703 => ?_)
        · replace ho659 := cond_t hb703 ho659
          refine run_skip ?_
          refine at_then ?_
          refine run_seq ?_
          refine run_block ?_
          refine run_seq ?_
          refine run_seq ?_
          obtain ⟨e709, ho659⟩ := chk_some ho659
          obtain ⟨e711, ho659⟩ := chk_some ho659
          refine run_meet (fun ρ_ w_ => ρ_ = [(0, .pointer (some ⟨b0, f0, none⟩)), (3, .int .i64 a680), (47, .bool ((decide (((gt x0.fTexts a680).size : Int) < 1)) || (decide (300 < ((gt x0.fTexts a680).size : Int)))))] ∧ Mem w [] w_ []) ?_ ?_
          · skip
            refine run_region rfl ?_
            refine ops_ex rfl (guard_none rfl) rfl rfl (ex_move rfl rfl) ?_
            refine ops_ex rfl (guard_none rfl) rfl rfl (ex_nilCheck rfl rfl) ?_
            refine ops_ex rfl (guard_none rfl) rfl rfl (ex_fieldAddr (off' := f0) rfl rfl Try.underlying29 rfl tsz22 rfl) ?_
            refine ops_ex rfl (guard_none rfl) rfl rfl (ex_load1 rfl rfl Try.underlying22 rfl ((HM.at_ hc0) 0 _ rfl)) ?_
            refine ops_ex rfl (guard_none rfl) rfl rfl (ex_move rfl rfl) ?_
            have hc710 : CellsAt _ (sb p0_0) (so p0_0 + (a680).toNat * 1) [(.string (gt x0.fTexts a680))] := rd_plain hp0_0 e709
            refine ops_ex rfl (guard_none rfl) rfl rfl (ex_indexAddr (d := kStr) rfl rfl rfl Try.underlying22 tsz9 hp0_0 (idx_lo e709) (idx_hi e709)) ?_
            refine ops_ex rfl (guard_none rfl) rfl rfl (ex_load1 rfl rfl Try.underlying9 rfl ((HM.at_ hc710) 0 _ rfl)) ?_
            refine ops_ex rfl (guard_none rfl) rfl rfl (ex_strlen rfl rfl Try.underlying9) ?_
            refine ops_ex rfl (guard_none rfl) rfl rfl (ex_lss rfl rfl rfl) ?_
            refine ops_ex rfl (guard_none rfl) rfl rfl (ex_move rfl rfl) ?_
            refine bool_cases (decide (((gt x0.fTexts a680).size : Int) < 1)) (fun hg713 => ?_) (fun hg713 => ?_)
            · skip
              refine ops_off rfl (guard_off rfl rfl rfl hg713) rfl rfl ?_
              refine ops_off rfl (guard_off rfl rfl rfl hg713) rfl rfl ?_
              refine ops_off rfl (guard_off rfl rfl rfl hg713) rfl rfl ?_
              refine ops_off rfl (guard_off rfl rfl rfl hg713) rfl rfl ?_
              refine ops_off rfl (guard_off rfl rfl rfl hg713) rfl rfl ?_
              refine ops_off rfl (guard_off rfl rfl rfl hg713) rfl rfl ?_
              refine ops_off rfl (guard_off rfl rfl rfl hg713) rfl rfl ?_
              refine ops_off rfl (guard_off rfl rfl rfl hg713) rfl rfl ?_
              refine ops_off rfl (guard_off rfl rfl rfl hg713) rfl rfl ?_
              have hg714 : ((decide (((gt x0.fTexts a680).size : Int) < 1)) || (decide (300 < ((gt x0.fTexts a680).size : Int)))) = true := by simp only [hg713, Bool.and_true, Bool.true_and, Bool.and_false, Bool.false_and, Bool.or_true, Bool.true_or, Bool.or_false, Bool.false_or, Bool.not_true, Bool.not_false, Bool.not_not]
              refine ops_ex (v := .bool ((decide (((gt x0.fTexts a680).size : Int) < 1)) || (decide (300 < ((gt x0.fTexts a680).size : Int))))) rfl (guard_none rfl) rfl rfl (ex_por_t rfl rfl hg713) ?_
              refine ops_nil ?_
              exact at_meet [(0, .pointer (some ⟨b0, f0, none⟩)), (3, .int .i64 a680), (47, .bool ((decide (((gt x0.fTexts a680).size : Int) < 1)) || (decide (300 < ((gt x0.fTexts a680).size : Int)))))] ⟨rfl, HM⟩ (Sub.cons rfl (Sub.cons rfl (Sub.cons rfl Sub.nil)))
            · skip
              refine ops_ex rfl (guard_on rfl rfl rfl hg713) rfl rfl (ex_move rfl rfl) ?_
              refine ops_ex rfl (guard_on rfl rfl rfl hg713) rfl rfl (ex_nilCheck rfl rfl) ?_
              refine ops_ex rfl (guard_on rfl rfl rfl hg713) rfl rfl (ex_fieldAddr (off' := f0) rfl rfl Try.underlying29 rfl tsz22 rfl) ?_
              refine ops_ex rfl (guard_on rfl rfl rfl hg713) rfl rfl (ex_load1 rfl rfl Try.underlying22 rfl ((HM.at_ hc0) 0 _ rfl)) ?_
              refine ops_ex rfl (guard_on rfl rfl rfl hg713) rfl rfl (ex_move rfl rfl) ?_
              have hc712 : CellsAt _ (sb p0_0) (so p0_0 + (a680).toNat * 1) [(.string (gt x0.fTexts a680))] := rd_plain hp0_0 (or_t e711 (not_mk hg713))
              refine ops_ex rfl (guard_on rfl rfl rfl hg713) rfl rfl (ex_indexAddr (d := kStr) rfl rfl rfl Try.underlying22 tsz9 hp0_0 (idx_lo (or_t e711 (not_mk hg713))) (idx_hi (or_t e711 (not_mk hg713)))) ?_
              refine ops_ex rfl (guard_on rfl rfl rfl hg713) rfl rfl (ex_load1 rfl rfl Try.underlying9 rfl ((HM.at_ hc712) 0 _ rfl)) ?_
              refine ops_ex rfl (guard_on rfl rfl rfl hg713) rfl rfl (ex_strlen rfl rfl Try.underlying9) ?_
              refine ops_ex rfl (guard_on rfl rfl rfl hg713) rfl rfl (ex_gtr rfl rfl rfl) ?_
              refine ops_ex (v := .bool ((decide (((gt x0.fTexts a680).size : Int) < 1)) || (decide (300 < ((gt x0.fTexts a680).size : Int))))) rfl (guard_none rfl) rfl rfl (ex_por_f rfl rfl hg713 rfl) ?_
              refine ops_nil ?_
              exact at_meet [(0, .pointer (some ⟨b0, f0, none⟩)), (3, .int .i64 a680), (47, .bool ((decide (((gt x0.fTexts a680).size : Int) < 1)) || (decide (300 < ((gt x0.fTexts a680).size : Int)))))] ⟨rfl, HM⟩ (Sub.cons rfl (Sub.cons rfl (Sub.cons rfl Sub.nil)))
          · rintro _ w715 ⟨rfl, HM⟩
            refine at_then ?_
            refine run_cond (b := ((decide (((gt x0.fTexts a680).size : Int) < 1)) || (decide (300 < ((gt x0.fTexts a680).size : Int))))) rfl (fun hb716 => ?_) (fun hb716 => ?_)
            · replace ho659 := cond_t hb716 ho659
              refine run_seq ?_
              refine run_region rfl ?_
              refine ops_ex rfl (guard_none rfl) rfl rfl (ex_assign rfl rfl) ?_
              refine ops_nil ?_
              refine at_then ?_
              refine run_ret ?_
              refine at_then_ret ?_
              refine at_block_ret ?_
              refine at_then_ret ?_
              refine at_then_ret ?_
              refine at_block_ret ?_
              refine at_then_ret ?_
              have hR := Option.some.inj ho659
              subst hR
              have hT := thn_inl H
              have hR := Option.some.inj hT
              subst hR
              exact at_ret1 rfl rfl ⟨_, rfl, rfl, HM⟩
            · replace ho659 := cond_f hb716 ho659
              refine run_skip ?_
              refine at_then ?_
              refine run_seq ?_
              obtain ⟨e717, ho659⟩ := chk_some ho659
              obtain ⟨e721, ho659⟩ := chk_some ho659
              obtain ⟨t723, h724, ho659⟩ := bind_some ho659
              refine run_drawf (fun w_ => Mem w [] w_ []) [(0, true), (1, true), (2, true), (3, true), (4, true), (5, true), (6, true), (7, true), (8, true), (9, true), (10, true), (11, true), (12, true), (13, false), (14, true)] mixed rfl rfl (by kernel_rfl) ?_
              replace HM := HM.grow (fr_drew _)
              have hS := Mem.suf (M := []) HM
              refine drwp_take rfl (guard_none rfl) rfl rfl (fun w_ hS_ => (ex_move rfl rfl)) hS ?_
              refine drwp_take rfl (guard_none rfl) rfl rfl (fun w_ hS_ => (ex_nilCheck rfl rfl)) hS ?_
              refine drwp_take rfl (guard_none rfl) rfl rfl (fun w_ hS_ => (ex_fieldAddr (off' := f0) rfl rfl Try.underlying29 rfl tsz22 rfl)) hS ?_
              refine drwp_take rfl (guard_none rfl) rfl rfl (fun w_ hS_ => (ex_load1 rfl rfl Try.underlying22 rfl ((hS_.at_ hc0) 0 _ rfl))) hS ?_
              refine drwp_take rfl (guard_none rfl) rfl rfl (fun w_ hS_ => (ex_move rfl rfl)) hS ?_
              refine drwp_takeE rfl (guard_none rfl) rfl rfl (ex_cutH kStr rfl rfl rfl Try.underlying22 tsz9 hp0_0 e717) hS ?_
              rintro u718 hr720
              refine drwp_take rfl (guard_none rfl) rfl rfl (fun w_ hS_ => (ex_move rfl rfl)) hS ?_
              refine drwp_take rfl (guard_none rfl) rfl rfl (fun w_ hS_ => (ex_nilCheck rfl rfl)) hS ?_
              refine drwp_take rfl (guard_none rfl) rfl rfl (fun w_ hS_ => (ex_fieldAddr (off' := f0) rfl rfl Try.underlying29 rfl tsz22 rfl)) hS ?_
              refine drwp_take rfl (guard_none rfl) rfl rfl (fun w_ hS_ => (ex_load1 rfl rfl Try.underlying22 rfl ((hS_.at_ hc0) 0 _ rfl))) hS ?_
              refine drwp_take rfl (guard_none rfl) rfl rfl (fun w_ hS_ => (ex_move rfl rfl)) hS ?_
              have hc722 : CellsAt _ (sb p0_0) (so p0_0 + (a680).toNat * 1) [(.string (gt x0.fTexts a680))] := rd_plain hp0_0 e721
              refine drwp_take rfl (guard_none rfl) rfl rfl (fun w_ hS_ => (ex_indexAddr (d := kStr) rfl rfl rfl Try.underlying22 tsz9 hp0_0 (idx_lo e721) (idx_hi e721))) hS ?_
              refine drwp_take rfl (guard_none rfl) rfl rfl (fun w_ hS_ => (ex_load1 rfl rfl Try.underlying9 rfl ((hS_.at_ hc722) 0 _ rfl))) hS ?_
              refine drwp_one rfl (guard_none rfl) rfl rfl (does_callk rfl callok60 rfl (spec_l1At.calls (x0 := x0.fTexts.take (a680).toNat) (x1 := (gt x0.fTexts a680)) (HM.rd hr720) h724)) ?_
              rintro _ w725 ⟨rfl, hn⟩
              replace HM : Mem w [] w725 [] := HM.call hn
              refine ⟨Mem.suf (M := []) HM, ?_⟩
              have hS := Mem.suf (M := []) HM
              refine drwp_take rfl (guard_none rfl) rfl rfl (fun w_ hS_ => (ex_gtr rfl rfl rfl)) hS ?_
              refine drwp_done ?_
              refine at_then ?_
              refine run_cond (b := (decide (0 < t723))) rfl (fun hb726 => ?_) (fun hb726 => ?_)
              · replace ho659 := cond_t hb726 ho659
                refine run_seq ?_
                refine run_region rfl ?_
                refine ops_ex rfl (guard_none rfl) rfl rfl (ex_assign rfl rfl) ?_
                refine ops_nil ?_
                refine at_then ?_
                refine run_ret ?_
                refine at_block_ret ?_
                refine at_then_ret ?_
                refine at_then_ret ?_
                refine at_block_ret ?_
                refine at_then_ret ?_
                have hR := Option.some.inj ho659
                subst hR
                have hT := thn_inl H
                have hR := Option.some.inj hT
                subst hR
                exact at_ret1 rfl rfl ⟨_, rfl, rfl, HM⟩
              · replace ho659 := cond_f hb726 ho659
                refine run_skip ?_
                refine at_block ?_
                refine at_then ?_
                refine run_region rfl ?_
                refine ops_ex rfl (guard_none rfl) rfl rfl (ex_move rfl rfl) ?_
                refine ops_ex rfl (guard_none rfl) rfl rfl (ex_add rfl rfl rfl) ?_
                refine ops_ex rfl (guard_none rfl) rfl rfl (ex_assign rfl rfl) ?_
                refine ops_nil ?_
                exact at_again k701 (ρ1 := [(0, .pointer (some ⟨b0, f0, none⟩)), (3, .int .i64 (wrap64 (a680 + 1)))]) (Nat.lt_succ_self _) ⟨_, ho659, rfl, HM⟩ (Sub.cons rfl (Sub.cons rfl Sub.nil))
        · replace ho659 := cond_f hb703 ho659
          refine run_exit ?_
          refine at_then_exit ?_
          refine at_then_exit ?_
          refine at_block_exit ?_
          exact at_mid (ρ' := [(0, .pointer (some ⟨b0, f0, none⟩))]) ⟨(Option.some.inj ho659), rfl, HM⟩ (Sub.cons rfl Sub.nil)
      · rintro _ w727 ⟨rfl, rfl, HM⟩
        replace H := (thn_inr H)
        obtain ⟨o813, ho814, H⟩ := bind_some H
        refine run_mid (fun ρ_ w_ => Sum.inr () = o813 ∧ ρ_ = [] ∧ Mem w [] w_ []) ?_ ?_
        · skip
          refine run_seq ?_
          refine run_region rfl ?_
          refine ops_ex rfl (guard_none rfl) rfl rfl (ex_assign rfl rfl) ?_
          refine ops_nil ?_
          refine at_then ?_
          refine run_block ?_
          refine run_loop (fun k_ ρ_ w_ => ∃ a843 : Int, spec_l1Fault.l1 x0 k_ a843 = some o813 ∧ ρ_ = [(0, .pointer (some ⟨b0, f0, none⟩)), (4, .int .i64 a843)] ∧ Mem w [] w_ []) k (ρ1 := [(0, .pointer (some ⟨b0, f0, none⟩)), (4, .int .i64 0)]) ⟨_, ho814, rfl, HM⟩ (Sub.cons rfl (Sub.cons rfl Sub.nil)) ?_
          clear HM ho814
          rintro k872 _ w873 ⟨a843, ho814, rfl, HM⟩
          obtain _ | k872 := k872
          · exact nomatch ((spec_l1Fault.l1_z x0 a843).symm.trans ho814)
          replace ho814 := (spec_l1Fault.l1_s x0 k872 a843).symm.trans ho814
          refine run_seq ?_
          refine run_seq ?_
          refine run_region rfl ?_
          refine ops_ex rfl (guard_none rfl) rfl rfl (ex_move rfl rfl) ?_
          refine ops_ex rfl (guard_none rfl) rfl rfl (ex_move rfl rfl) ?_
          refine ops_ex rfl (guard_none rfl) rfl rfl (ex_nilCheck rfl rfl) ?_
          refine ops_ex rfl (guard_none rfl) rfl rfl (ex_fieldAddr (off' := f0 + 1) rfl rfl Try.underlying29 rfl tsz27 rfl) ?_
          refine ops_ex rfl (guard_none rfl) rfl rfl (ex_load1 rfl rfl Try.underlying27 rfl ((HM.at_ hc0) 1 _ rfl)) ?_
          refine ops_ex rfl (guard_none rfl) rfl rfl (ex_len (d := kSign) (xs := x0.fSigns) rfl rfl Try.underlying27 hp0_1) ?_
          refine ops_ex rfl (guard_none rfl) rfl rfl (ex_lss rfl rfl rfl) ?_
          refine ops_nil ?_
          refine at_then ?_
          refine run_cond (b := (decide (a843 < (x0.fSigns.length : Int)))) rfl (fun hb874 => ?_) (fun hb874 => ?_)
          · replace ho814 := cond_t hb874 ho814
            refine run_skip ?_
            refine at_then ?_
            refine run_seq ?_
            refine run_block ?_
            refine run_seq ?_
            refine run_seq ?_
            obtain ⟨e884, ho814⟩ := chk_some ho814
            obtain ⟨t886, h887, ho814⟩ := bind_some ho814
            obtain ⟨e888, ho814⟩ := chk_some ho814
            obtain ⟨t890, h891, ho814⟩ := bind_some ho814
            refine run_meet (fun ρ_ w_ => ρ_ = [(0, .pointer (some ⟨b0, f0, none⟩)), (4, .int .i64 a843), (98, .bool ((!t886) || (!t890)))] ∧ Mem w [] w_ []) ?_ ?_
            · skip
              refine run_drawf (fun w_ => Mem w [] w_ []) [(0, true), (1, true), (2, true), (3, true), (4, true), (5, true), (6, true), (7, true), (8, false), (9, true), (10, true), (11, true), (12, true), (13, true), (14, true), (15, true), (16, true), (17, true), (18, true), (19, true), (20, true), (21, true), (22, true), (23, true), (24, false), (25, true), (26, true)] mixed rfl rfl (by kernel_rfl) ?_
              replace HM := HM.grow (fr_drew _)
              have hS := Mem.suf (M := []) HM
              refine drwp_take rfl (guard_none rfl) rfl rfl (fun w_ hS_ => (ex_move rfl rfl)) hS ?_
              refine drwp_take rfl (guard_none rfl) rfl rfl (fun w_ hS_ => (ex_nilCheck rfl rfl)) hS ?_
              refine drwp_take rfl (guard_none rfl) rfl rfl (fun w_ hS_ => (ex_fieldAddr (off' := f0 + 1) rfl rfl Try.underlying29 rfl tsz27 rfl)) hS ?_
              refine drwp_take rfl (guard_none rfl) rfl rfl (fun w_ hS_ => (ex_load1 rfl rfl Try.underlying27 rfl ((hS_.at_ hc0) 1 _ rfl))) hS ?_
              refine drwp_take rfl (guard_none rfl) rfl rfl (fun w_ hS_ => (ex_move rfl rfl)) hS ?_
              have hc885 : CellsAt _ (sb p0_1) (so p0_1 + (a843).toNat * 2) [(.int .i64 ((gt x0.fSigns a843).fKey)), (.int .i64 ((gt x0.fSigns a843).fId))] := rd_plain hp0_1 e884
              refine drwp_take rfl (guard_none rfl) rfl rfl (fun w_ hS_ => (ex_indexAddr (d := kSign) rfl rfl rfl Try.underlying27 tsz161 hp0_1 (idx_lo e884) (idx_hi e884))) hS ?_
              refine drwp_take rfl (guard_none rfl) rfl rfl (fun w_ hS_ => (ex_fieldAddr (off' := so p0_1 + (a843).toNat * 2) rfl rfl Try.underlying161 rfl tsz2 rfl)) hS ?_
              refine drwp_take rfl (guard_none rfl) rfl rfl (fun w_ hS_ => (ex_load1 rfl rfl Try.underlying2 rfl ((hS_.at_ hc885) 0 _ rfl))) hS ?_
              refine drwp_one rfl (guard_none rfl) rfl rfl (does_callk rfl callok107 rfl (spec_l1Key.calls (x0 := (gt x0.fSigns a843).fKey) h887)) ?_
              rintro _ w892 ⟨rfl, hn⟩
              replace HM : Mem w [] w892 [] := HM.call hn
              refine ⟨Mem.suf (M := []) HM, ?_⟩
              have hS := Mem.suf (M := []) HM
              refine drwp_take rfl (guard_none rfl) rfl rfl (fun w_ hS_ => (ex_not rfl rfl)) hS ?_
              refine drwp_take rfl (guard_none rfl) rfl rfl (fun w_ hS_ => (ex_move rfl rfl)) hS ?_
              refine bool_cases (!t886) (fun hg893 => ?_) (fun hg893 => ?_)
              · skip
                refine drwp_off rfl (guard_off rfl rfl rfl hg893) rfl rfl hS ?_
                refine drwp_off rfl (guard_off rfl rfl rfl hg893) rfl rfl hS ?_
                refine drwp_off rfl (guard_off rfl rfl rfl hg893) rfl rfl hS ?_
                refine drwp_off rfl (guard_off rfl rfl rfl hg893) rfl rfl hS ?_
                refine drwp_off rfl (guard_off rfl rfl rfl hg893) rfl rfl hS ?_
                refine drwp_off rfl (guard_off rfl rfl rfl hg893) rfl rfl hS ?_
                refine drwp_off rfl (guard_off rfl rfl rfl hg893) rfl rfl hS ?_
                refine drwp_off rfl (guard_off rfl rfl rfl hg893) rfl rfl hS ?_
                refine drwp_off rfl (guard_off rfl rfl rfl hg893) rfl rfl hS ?_
                refine drwp_off rfl (guard_off rfl rfl rfl hg893) rfl rfl hS ?_
                refine drwp_off rfl (guard_off rfl rfl rfl hg893) rfl rfl hS ?_
                refine drwp_off rfl (guard_off rfl rfl rfl hg893) rfl rfl hS ?_
                refine drwp_off rfl (guard_off rfl rfl rfl hg893) rfl rfl hS ?_
                refine drwp_off1 rfl (guard_off rfl rfl rfl hg893) rfl rfl ⟨hS, ?_⟩
                refine drwp_off rfl (guard_off rfl rfl rfl hg893) rfl rfl hS ?_
                have hg894 : ((!t886) || (!t890)) = true := by simp only [hg893, Bool.and_true, Bool.true_and, Bool.and_false, Bool.false_and, Bool.or_true, Bool.true_or, Bool.or_false, Bool.false_or, Bool.not_true, Bool.not_false, Bool.not_not]
                refine drwp_take (v := .bool ((!t886) || (!t890))) rfl (guard_none rfl) rfl rfl (fun w_ hS_ => (ex_por_t rfl rfl hg893)) hS ?_
                refine drwp_done ?_
                exact at_meet [(0, .pointer (some ⟨b0, f0, none⟩)), (4, .int .i64 a843), (98, .bool ((!t886) || (!t890)))] ⟨rfl, HM⟩ (Sub.cons rfl (Sub.cons rfl (Sub.cons rfl Sub.nil)))
              · skip
                refine drwp_take rfl (guard_on rfl rfl rfl hg893) rfl rfl (fun w_ hS_ => (ex_move rfl rfl)) hS ?_
                refine drwp_take rfl (guard_on rfl rfl rfl hg893) rfl rfl (fun w_ hS_ => (ex_nilCheck rfl rfl)) hS ?_
                refine drwp_take rfl (guard_on rfl rfl rfl hg893) rfl rfl (fun w_ hS_ => (ex_fieldAddr (off' := f0 + 1) rfl rfl Try.underlying29 rfl tsz27 rfl)) hS ?_
                refine drwp_take rfl (guard_on rfl rfl rfl hg893) rfl rfl (fun w_ hS_ => (ex_load1 rfl rfl Try.underlying27 rfl ((hS_.at_ hc0) 1 _ rfl))) hS ?_
                refine drwp_take rfl (guard_on rfl rfl rfl hg893) rfl rfl (fun w_ hS_ => (ex_move rfl rfl)) hS ?_
                have hc889 : CellsAt _ (sb p0_1) (so p0_1 + (a843).toNat * 2) [(.int .i64 ((gt x0.fSigns a843).fKey)), (.int .i64 ((gt x0.fSigns a843).fId))] := rd_plain hp0_1 (or_t e888 (not_mk hg893))
                refine drwp_take rfl (guard_on rfl rfl rfl hg893) rfl rfl (fun w_ hS_ => (ex_indexAddr (d := kSign) rfl rfl rfl Try.underlying27 tsz161 hp0_1 (idx_lo (or_t e888 (not_mk hg893))) (idx_hi (or_t e888 (not_mk hg893))))) hS ?_
                refine drwp_take rfl (guard_on rfl rfl rfl hg893) rfl rfl (fun w_ hS_ => (ex_fieldAddr (off' := so p0_1 + (a843).toNat * 2 + 1) rfl rfl Try.underlying161 rfl tsz2 rfl)) hS ?_
                refine drwp_take rfl (guard_on rfl rfl rfl hg893) rfl rfl (fun w_ hS_ => (ex_load1 rfl rfl Try.underlying2 rfl ((hS_.at_ hc889) 1 _ rfl))) hS ?_
                refine drwp_take rfl (guard_on rfl rfl rfl hg893) rfl rfl (fun w_ hS_ => (ex_move rfl rfl)) hS ?_
                refine drwp_take rfl (guard_on rfl rfl rfl hg893) rfl rfl (fun w_ hS_ => (ex_nilCheck rfl rfl)) hS ?_
                refine drwp_take rfl (guard_on rfl rfl rfl hg893) rfl rfl (fun w_ hS_ => (ex_fieldAddr (off' := f0) rfl rfl Try.underlying29 rfl tsz22 rfl)) hS ?_
                refine drwp_take rfl (guard_on rfl rfl rfl hg893) rfl rfl (fun w_ hS_ => (ex_load1 rfl rfl Try.underlying22 rfl ((hS_.at_ hc0) 0 _ rfl))) hS ?_
                refine drwp_take rfl (guard_on rfl rfl rfl hg893) rfl rfl (fun w_ hS_ => (ex_len (d := kStr) (xs := x0.fTexts) rfl rfl Try.underlying22 hp0_0)) hS ?_
                refine drwp_one rfl (guard_on rfl rfl rfl hg893) rfl rfl (does_callk rfl callok88 rfl (spec_l1In.calls (x0 := (gt x0.fSigns a843).fId) (x1 := 1) (x2 := (x0.fTexts.length : Int)) (cond_t (not_mk hg893) h891))) ?_
                rintro _ w895 ⟨rfl, hn⟩
                replace HM : Mem w [] w895 [] := HM.call hn
                refine ⟨Mem.suf (M := []) HM, ?_⟩
                have hS := Mem.suf (M := []) HM
                refine drwp_take rfl (guard_on rfl rfl rfl hg893) rfl rfl (fun w_ hS_ => (ex_not rfl rfl)) hS ?_
                refine drwp_take (v := .bool ((!t886) || (!t890))) rfl (guard_none rfl) rfl rfl (fun w_ hS_ => (ex_por_f rfl rfl hg893 rfl)) hS ?_
                refine drwp_done ?_
                exact at_meet [(0, .pointer (some ⟨b0, f0, none⟩)), (4, .int .i64 a843), (98, .bool ((!t886) || (!t890)))] ⟨rfl, HM⟩ (Sub.cons rfl (Sub.cons rfl (Sub.cons rfl Sub.nil)))
            · rintro _ w896 ⟨rfl, HM⟩
              refine at_then ?_
              refine run_cond (b := ((!t886) || (!t890))) rfl (fun hb897 => ?_) (fun hb897 => ?_)
              · replace ho814 := cond_t hb897 ho814
                refine run_seq ?_
                refine run_region rfl ?_
                refine ops_ex rfl (guard_none rfl) rfl rfl (ex_assign rfl rfl) ?_
                refine ops_nil ?_
                refine at_then ?_
                refine run_ret ?_
                refine at_then_ret ?_
                refine at_block_ret ?_
                refine at_then_ret ?_
                refine at_then_ret ?_
                refine at_block_ret ?_
                refine at_then_ret ?_
                have hR := Option.some.inj ho814
                subst hR
                have hT := thn_inl H
                have hR := Option.some.inj hT
                subst hR
                exact at_ret1 rfl rfl ⟨_, rfl, rfl, HM⟩
              · replace ho814 := cond_f hb897 ho814
                refine run_skip ?_
                refine at_then ?_
                refine run_seq ?_
                obtain ⟨e898, ho814⟩ := chk_some ho814
                obtain ⟨e902, ho814⟩ := chk_some ho814
                obtain ⟨t904, h905, ho814⟩ := bind_some ho814
                refine run_drawf (fun w_ => Mem w [] w_ []) [(0, true), (1, true), (2, true), (3, true), (4, true), (5, true), (6, true), (7, true), (8, true), (9, true), (10, true), (11, true), (12, true), (13, false)] mixed rfl rfl (by kernel_rfl) ?_
                replace HM := HM.grow (fr_drew _)
                have hS := Mem.suf (M := []) HM
                refine drwp_take rfl (guard_none rfl) rfl rfl (fun w_ hS_ => (ex_move rfl rfl)) hS ?_
                refine drwp_take rfl (guard_none rfl) rfl rfl (fun w_ hS_ => (ex_nilCheck rfl rfl)) hS ?_
                refine drwp_take rfl (guard_none rfl) rfl rfl (fun w_ hS_ => (ex_fieldAddr (off' := f0 + 1) rfl rfl Try.underlying29 rfl tsz27 rfl)) hS ?_
                refine drwp_take rfl (guard_none rfl) rfl rfl (fun w_ hS_ => (ex_load1 rfl rfl Try.underlying27 rfl ((hS_.at_ hc0) 1 _ rfl))) hS ?_
                refine drwp_take rfl (guard_none rfl) rfl rfl (fun w_ hS_ => (ex_move rfl rfl)) hS ?_
                refine drwp_takeE rfl (guard_none rfl) rfl rfl (ex_cutH kSign rfl rfl rfl Try.underlying27 tsz161 hp0_1 e898) hS ?_
                rintro u899 hr901
                refine drwp_take rfl (guard_none rfl) rfl rfl (fun w_ hS_ => (ex_move rfl rfl)) hS ?_
                refine drwp_take rfl (guard_none rfl) rfl rfl (fun w_ hS_ => (ex_nilCheck rfl rfl)) hS ?_
                refine drwp_take rfl (guard_none rfl) rfl rfl (fun w_ hS_ => (ex_fieldAddr (off' := f0 + 1) rfl rfl Try.underlying29 rfl tsz27 rfl)) hS ?_
                refine drwp_take rfl (guard_none rfl) rfl rfl (fun w_ hS_ => (ex_load1 rfl rfl Try.underlying27 rfl ((hS_.at_ hc0) 1 _ rfl))) hS ?_
                refine drwp_take rfl (guard_none rfl) rfl rfl (fun w_ hS_ => (ex_move rfl rfl)) hS ?_
                have hc903 : CellsAt _ (sb p0_1) (so p0_1 + (a843).toNat * 2) [(.int .i64 ((gt x0.fSigns a843).fKey)), (.int .i64 ((gt x0.fSigns a843).fId))] := rd_plain hp0_1 e902
                refine drwp_take rfl (guard_none rfl) rfl rfl (fun w_ hS_ => (ex_indexAddr (d := kSign) rfl rfl rfl Try.underlying27 tsz161 hp0_1 (idx_lo e902) (idx_hi e902))) hS ?_
                refine drwp_take rfl (guard_none rfl) rfl rfl (fun w_ hS_ => (ex_loadN (cs := [(.int .i64 ((gt x0.fSigns a843).fKey)), (.int .i64 ((gt x0.fSigns a843).fId))]) rfl rfl Try.underlying161 rfl tsz161 rfl ((hS_.at_ hc903).sub 0 2 rfl))) hS ?_
                refine drwp_one rfl (guard_none rfl) rfl rfl (does_callk rfl callok108 rfl (spec_l1Signed.calls (x0 := x0.fSigns.take (a843).toNat) (x1 := (gt x0.fSigns a843)) (HM.rd hr901) h905)) ?_
                rintro _ w906 ⟨rfl, hn⟩
                replace HM : Mem w [] w906 [] := HM.call hn
                refine ⟨Mem.suf (M := []) HM, ?_⟩
                have hS := Mem.suf (M := []) HM
                refine drwp_done ?_
                refine at_then ?_
                refine run_cond (b := t904) rfl (fun hb907 => ?_) (fun hb907 => ?_)
                · replace ho814 := cond_t hb907 ho814
                  refine run_seq ?_
                  refine run_region rfl ?_
                  refine ops_ex rfl (guard_none rfl) rfl rfl (ex_assign rfl rfl) ?_
                  refine ops_nil ?_
                  refine at_then ?_
                  refine run_ret ?_
                  refine at_block_ret ?_
                  refine at_then_ret ?_
                  refine at_then_ret ?_
                  refine at_block_ret ?_
                  refine at_then_ret ?_
                  have hR := Option.some.inj ho814
                  subst hR
                  have hT := thn_inl H
                  have hR := Option.some.inj hT
                  subst hR
                  exact at_ret1 rfl rfl ⟨_, rfl, rfl, HM⟩
                · replace ho814 := cond_f hb907 ho814
                  refine run_skip ?_
                  refine at_block ?_
                  refine at_then ?_
                  refine run_region rfl ?_
                  refine ops_ex rfl (guard_none rfl) rfl rfl (ex_move rfl rfl) ?_
                  refine ops_ex rfl (guard_none rfl) rfl rfl (ex_add rfl rfl rfl) ?_
                  refine ops_ex rfl (guard_none rfl) rfl rfl (ex_assign rfl rfl) ?_
                  refine ops_nil ?_
                  exact at_again k872 (ρ1 := [(0, .pointer (some ⟨b0, f0, none⟩)), (4, .int .i64 (wrap64 (a843 + 1)))]) (Nat.lt_succ_self _) ⟨_, ho814, rfl, HM⟩ (Sub.cons rfl (Sub.cons rfl Sub.nil))
          · replace ho814 := cond_f hb874 ho814
            refine run_exit ?_
            refine at_then_exit ?_
            refine at_then_exit ?_
            refine at_block_exit ?_
            exact at_mid (ρ' := []) ⟨(Option.some.inj ho814), rfl, HM⟩ Sub.nil
        · rintro _ w908 ⟨rfl, rfl, HM⟩
          replace H := (thn_inr H)
          refine run_seq ?_
          refine run_region rfl ?_
          refine ops_ex rfl (guard_none rfl) rfl rfl (ex_assign rfl rfl) ?_
          refine ops_nil ?_
          refine at_then ?_
          refine run_ret ?_
          have hR := Option.some.inj H
          subst hR
          exact at_ret1 rfl rfl ⟨_, rfl, rfl, HM⟩
end Go.Proofs.Ytigojhglkilodaa.Zk
