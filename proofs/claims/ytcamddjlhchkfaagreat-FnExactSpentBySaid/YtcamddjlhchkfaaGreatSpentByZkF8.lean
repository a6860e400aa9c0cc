/- What functions of the program compute, each as a plain function, and that they do. Conditions: as each theorem states them. -/
import Derived.Test.YtcamddjlhchkfaaGreatSpentByZkF7
namespace Go.Proofs.YtcamddjlhchkfaaGreat.Zk
open Go Go.RowKit Go.IntWalk Go.Proofs
set_option linter.unusedVariables false
set_option linter.unusedSimpArgs false
set_option maxRecDepth 100000
set_option maxHeartbeats 4000000
def laws_eqTx.f (k : Nat) (x0 : Tx) (x1 : Tx) : Option Bool := (bif (x0.fKind != x1.fKind) then some false else (bif (x0.fMember != x1.fMember) then some false else ((laws_eqRefS.f k x0.fIns x1.fIns).bind fun t5171 => (bif !t5171 then some false else ((laws_eqOutS.f k x0.fOuts x1.fOuts).bind fun t5175 => (bif !t5175 then some false else some true))))))
theorem laws_eqTx.calls {k : Nat} {x0 : Tx} {x1 : Tx} {p0_0 : Value} {p0_1 : Value} {p1_0 : Value} {p1_1 : Value} {w : World} (hp0_0 : RdS kRef w p0_0 x0.fIns) (hp0_1 : RdS kOut w p0_1 x0.fOuts) (hp1_0 : RdS kRef w p1_0 x1.fIns) (hp1_1 : RdS kOut w p1_1 x1.fOuts) {r : Bool} (H : laws_eqTx.f k x0 x1 = some r) :
    Calls Tryz.prog 15 ([.agg #[(.int .i64 x0.fKind), (.int .i64 x0.fMember), p0_0, p0_1], .agg #[(.int .i64 x1.fKind), (.int .i64 x1.fMember), p1_0, p1_1]] : List Value).toArray w (fun e w_ => ∃ v, e = .returned v ∧ v = (.bool r) ∧ Mem w [] w_ []) := by
  have HM := Mem.start w
  refine calls_run (N := 27) Tryz.func15 rfl rfl rfl rfl ?_
  unfold laws_eqTx.f at H
  refine run_seq ?_
  refine run_region rfl ?_
  refine ops_does rfl (guard_none rfl) rfl rfl (does_box (cs := [.int .i64 x0.fKind, .int .i64 x0.fMember, p0_0, p0_1]) rfl rfl rfl HM) ?_
  rintro _ w5162 ⟨b5156, rfl, HM⟩
  refine ops_does rfl (guard_none rfl) rfl rfl (does_box (cs := [.int .i64 x1.fKind, .int .i64 x1.fMember, p1_0, p1_1]) rfl rfl rfl HM) ?_
  rintro _ w5163 ⟨b5159, rfl, HM⟩
  refine ops_ex rfl (guard_none rfl) rfl rfl (ex_assign rfl rfl) ?_
  refine ops_nil ?_
  refine at_then ?_
  refine run_seq ?_
  refine run_seq ?_
  refine run_region rfl ?_
  refine ops_ex rfl (guard_none rfl) rfl rfl (ex_fieldAddr (off' := 0) rfl rfl Tryz.underlying37 rfl tsz2 rfl) ?_
  refine ops_ex rfl (guard_none rfl) rfl rfl (ex_load1 rfl rfl Tryz.underlying2 rfl ((HM.box_at 1 rfl) 0 _ rfl)) ?_
  refine ops_ex rfl (guard_none rfl) rfl rfl (ex_fieldAddr (off' := 0) rfl rfl Tryz.underlying37 rfl tsz2 rfl) ?_
  refine ops_ex rfl (guard_none rfl) rfl rfl (ex_load1 rfl rfl Tryz.underlying2 rfl ((HM.box_at 0 rfl) 0 _ rfl)) ?_
  refine ops_ex rfl (guard_none rfl) rfl rfl (ex_neq rfl rfl rfl) ?_
  refine ops_nil ?_
  refine at_then ?_
  refine run_cond (b := (x0.fKind != x1.fKind)) rfl (fun hb5165 => ?_) (fun hb5165 => ?_)
  · replace H := cond_t hb5165 H
    refine run_seq ?_
    refine run_region rfl ?_
    refine ops_ex rfl (guard_none rfl) rfl rfl (ex_assign rfl rfl) ?_
    refine ops_nil ?_
    refine at_then ?_
    refine run_ret ?_
    refine at_then_ret ?_
    replace HM := (HM.front 0 rfl rfl).drop
    replace HM := (HM.front 0 rfl rfl).drop
    have hR := Option.some.inj H
    subst hR
    exact at_ret1 rfl rfl ⟨_, rfl, rfl, HM⟩
  · replace H := cond_f hb5165 H
    refine run_skip ?_
    refine at_then ?_
    refine run_seq ?_
    refine run_seq ?_
    refine run_region rfl ?_
    refine ops_ex rfl (guard_none rfl) rfl rfl (ex_fieldAddr (off' := 1) rfl rfl Tryz.underlying37 rfl tsz2 rfl) ?_
    refine ops_ex rfl (guard_none rfl) rfl rfl (ex_load1 rfl rfl Tryz.underlying2 rfl ((HM.box_at 1 rfl) 1 _ rfl)) ?_
    refine ops_ex rfl (guard_none rfl) rfl rfl (ex_fieldAddr (off' := 1) rfl rfl Tryz.underlying37 rfl tsz2 rfl) ?_
    refine ops_ex rfl (guard_none rfl) rfl rfl (ex_load1 rfl rfl Tryz.underlying2 rfl ((HM.box_at 0 rfl) 1 _ rfl)) ?_
    refine ops_ex rfl (guard_none rfl) rfl rfl (ex_neq rfl rfl rfl) ?_
    refine ops_nil ?_
    refine at_then ?_
    refine run_cond (b := (x0.fMember != x1.fMember)) rfl (fun hb5167 => ?_) (fun hb5167 => ?_)
    · replace H := cond_t hb5167 H
      refine run_seq ?_
      refine run_region rfl ?_
      refine ops_ex rfl (guard_none rfl) rfl rfl (ex_assign rfl rfl) ?_
      refine ops_nil ?_
      refine at_then ?_
      refine run_ret ?_
      refine at_then_ret ?_
      replace HM := (HM.front 0 rfl rfl).drop
      replace HM := (HM.front 0 rfl rfl).drop
      have hR := Option.some.inj H
      subst hR
      exact at_ret1 rfl rfl ⟨_, rfl, rfl, HM⟩
    · replace H := cond_f hb5167 H
      refine run_skip ?_
      refine at_then ?_
      refine run_seq ?_
      refine run_seq ?_
      obtain ⟨t5171, h5172, H⟩ := bind_some H
      refine run_region rfl ?_
      refine ops_ex rfl (guard_none rfl) rfl rfl (ex_fieldAddr (off' := 2) rfl rfl Tryz.underlying37 rfl tsz34 rfl) ?_
      refine ops_ex rfl (guard_none rfl) rfl rfl (ex_load1 rfl rfl Tryz.underlying34 rfl ((HM.box_at 1 rfl) 2 _ rfl)) ?_
      refine ops_ex rfl (guard_none rfl) rfl rfl (ex_fieldAddr (off' := 2) rfl rfl Tryz.underlying37 rfl tsz34 rfl) ?_
      refine ops_ex rfl (guard_none rfl) rfl rfl (ex_load1 rfl rfl Tryz.underlying34 rfl ((HM.box_at 0 rfl) 2 _ rfl)) ?_
      refine ops_does rfl (guard_none rfl) rfl rfl (does_callk rfl callok41 rfl (laws_eqRefS.calls (x0 := x0.fIns) (x1 := x1.fIns) (HM.rd hp0_0) (HM.rd hp1_0) h5172)) ?_
      rintro _ w5173 ⟨rfl, hn⟩
      replace HM : Mem w [] w5173 [box b5159 37 [.int .i64 x1.fKind, .int .i64 x1.fMember, p1_0, p1_1], box b5156 37 [.int .i64 x0.fKind, .int .i64 x0.fMember, p0_0, p0_1]] := HM.call hn
      refine ops_ex rfl (guard_none rfl) rfl rfl (ex_not rfl rfl) ?_
      refine ops_nil ?_
      refine at_then ?_
      refine run_cond (b := !t5171) rfl (fun hb5174 => ?_) (fun hb5174 => ?_)
      · replace H := cond_t hb5174 H
        refine run_seq ?_
        refine run_region rfl ?_
        refine ops_ex rfl (guard_none rfl) rfl rfl (ex_assign rfl rfl) ?_
        refine ops_nil ?_
        refine at_then ?_
        refine run_ret ?_
        refine at_then_ret ?_
        replace HM := (HM.front 0 rfl rfl).drop
        replace HM := (HM.front 0 rfl rfl).drop
        have hR := Option.some.inj H
        subst hR
        exact at_ret1 rfl rfl ⟨_, rfl, rfl, HM⟩
      · replace H := cond_f hb5174 H
        refine run_skip ?_
        refine at_then ?_
        refine run_seq ?_
        refine run_seq ?_
        obtain ⟨t5175, h5176, H⟩ := bind_some H
        refine run_region rfl ?_
        refine ops_ex rfl (guard_none rfl) rfl rfl (ex_fieldAddr (off' := 3) rfl rfl Tryz.underlying37 rfl tsz35 rfl) ?_
        refine ops_ex rfl (guard_none rfl) rfl rfl (ex_load1 rfl rfl Tryz.underlying35 rfl ((HM.box_at 1 rfl) 3 _ rfl)) ?_
        refine ops_ex rfl (guard_none rfl) rfl rfl (ex_fieldAddr (off' := 3) rfl rfl Tryz.underlying37 rfl tsz35 rfl) ?_
        refine ops_ex rfl (guard_none rfl) rfl rfl (ex_load1 rfl rfl Tryz.underlying35 rfl ((HM.box_at 0 rfl) 3 _ rfl)) ?_
        refine ops_does rfl (guard_none rfl) rfl rfl (does_callk rfl callok42 rfl (laws_eqOutS.calls (x0 := x0.fOuts) (x1 := x1.fOuts) (HM.rd hp0_1) (HM.rd hp1_1) h5176)) ?_
        rintro _ w5177 ⟨rfl, hn⟩
        replace HM : Mem w [] w5177 [box b5159 37 [.int .i64 x1.fKind, .int .i64 x1.fMember, p1_0, p1_1], box b5156 37 [.int .i64 x0.fKind, .int .i64 x0.fMember, p0_0, p0_1]] := HM.call hn
        refine ops_ex rfl (guard_none rfl) rfl rfl (ex_not rfl rfl) ?_
        refine ops_nil ?_
        refine at_then ?_
        refine run_cond (b := !t5175) rfl (fun hb5178 => ?_) (fun hb5178 => ?_)
        · replace H := cond_t hb5178 H
          refine run_seq ?_
          refine run_region rfl ?_
          refine ops_ex rfl (guard_none rfl) rfl rfl (ex_assign rfl rfl) ?_
          refine ops_nil ?_
          refine at_then ?_
          refine run_ret ?_
          refine at_then_ret ?_
          replace HM := (HM.front 0 rfl rfl).drop
          replace HM := (HM.front 0 rfl rfl).drop
          have hR := Option.some.inj H
          subst hR
          exact at_ret1 rfl rfl ⟨_, rfl, rfl, HM⟩
        · replace H := cond_f hb5178 H
          refine run_skip ?_
          refine at_then ?_
          refine run_seq ?_
          refine run_region rfl ?_
          refine ops_ex rfl (guard_none rfl) rfl rfl (ex_assign rfl rfl) ?_
          refine ops_nil ?_
          refine at_then ?_
          refine run_ret ?_
          replace HM := (HM.front 0 rfl rfl).drop
          replace HM := (HM.front 0 rfl rfl).drop
          have hR := Option.some.inj H
          subst hR
          exact at_ret1 rfl rfl ⟨_, rfl, rfl, HM⟩

def laws_markInt64S.l0  : Nat → (List Int) → Int → Int → Option ((List Int) × Int)
  | 0, _, _, _ => none
  | k + 1, a5242, a5244, a5245 => (bif (decide (a5245 < (a5242.length : Int))) then (chk (idxOk a5245 a5242.length) (laws_markInt64S.l0 k (a5242.set (a5245).toNat a5244) (wrap64 (a5244 + 1)) (wrap64 (a5245 + 1)))) else some (a5242, a5244))
theorem laws_markInt64S.l0_z  (a5242 : List Int) (a5244 : Int) (a5245 : Int) : laws_markInt64S.l0 0 a5242 a5244 a5245 = none := rfl
theorem laws_markInt64S.l0_s  (k : Nat) (a5242 : List Int) (a5244 : Int) (a5245 : Int) : laws_markInt64S.l0 (k + 1) a5242 a5244 a5245 = (bif (decide (a5245 < (a5242.length : Int))) then (chk (idxOk a5245 a5242.length) (laws_markInt64S.l0 k (a5242.set (a5245).toNat a5244) (wrap64 (a5244 + 1)) (wrap64 (a5245 + 1)))) else some (a5242, a5244)) := rfl
def laws_markInt64S.f (k : Nat) (x0 : List Int) (x1 : Int) : Option (Int × (List Int)) := ((laws_markInt64S.l0 k x0 x1 0).bind (cur2 (fun a5235 a5237 => some (a5237, a5235))))
theorem laws_markInt64S.calls {k : Nat} {x0 : List Int} {x1 : Int} {p0 : Value} {w wo : World} {X : List Nat} (hwo : Olds wo w X) (hX : Hold w [own kInt 2 p0 x0] X) (hXn : X.Nodup) (hXl : ∀ b ∈ X, b < w.heap.size)  {r : Int × (List Int)} (H : laws_markInt64S.f k x0 x1 = some r) :
    Calls Tryz.prog 43 ([p0, .int .i64 x1] : List Value).toArray w (fun e w_ => ∃ v, e = .returned v ∧ v = (.int .i64 r.1) ∧ Mem w X w_ [own kInt 2 p0 r.2]) := by
  have HM := Mem.startX hX hXn hXl
  refine calls_run (N := 19) Tryz.func43 rfl rfl rfl rfl ?_
  unfold laws_markInt64S.f at H
  refine run_seq ?_
  refine run_region rfl ?_
  refine ops_ex rfl (guard_none rfl) rfl rfl (ex_assign rfl rfl) ?_
  refine ops_nil ?_
  refine at_then ?_
  obtain ⟨o5238, ho5239, H⟩ := bind_some H
  refine run_mid (fun ρ_ w_ => ∃ a5235 : List Int, ∃ a5237 : Int, (a5235, a5237) = o5238 ∧ ρ_ = [(1, .int .i64 a5237)] ∧ Mem w X w_ [own kInt 2 p0 a5235]) ?_ ?_
  · clear H
    refine run_seq ?_
    refine run_region rfl ?_
    refine ops_ex rfl (guard_none rfl) rfl rfl (ex_assign rfl rfl) ?_
    refine ops_nil ?_
    refine at_then ?_
    refine run_block ?_
    refine run_loop (fun k_ ρ_ w_ => ∃ a5242 : List Int, ∃ a5244 : Int, ∃ a5245 : Int, laws_markInt64S.l0 k_ a5242 a5244 a5245 = some o5238 ∧ ρ_ = [(0, p0), (1, .int .i64 a5244), (5, .int .i64 a5245)] ∧ Mem w X w_ [own kInt 2 p0 a5242]) k (ρ1 := [(0, p0), (1, .int .i64 x1), (5, .int .i64 0)]) ⟨_, _, _, ho5239, rfl, HM⟩ (Sub.cons rfl (Sub.cons rfl (Sub.cons rfl Sub.nil))) ?_
    clear HM ho5239
    rintro k5248 _ w5249 ⟨a5242, a5244, a5245, ho5239, rfl, HM⟩
    obtain _ | k5248 := k5248
    · exact nomatch ((laws_markInt64S.l0_z a5242 a5244 a5245).symm.trans ho5239)
    replace ho5239 := (laws_markInt64S.l0_s k5248 a5242 a5244 a5245).symm.trans ho5239
    refine run_seq ?_
    refine run_seq ?_
    refine run_region rfl ?_
    refine ops_ex rfl (guard_none rfl) rfl rfl (ex_move rfl rfl) ?_
    refine ops_ex rfl (guard_none rfl) rfl rfl (ex_move rfl rfl) ?_
    refine ops_ex rfl (guard_none rfl) rfl rfl (ex_len (d := kInt) (xs := a5242) rfl rfl Tryz.underlying60 (HM.own_rd 0 rfl)) ?_
    refine ops_ex rfl (guard_none rfl) rfl rfl (ex_lss rfl rfl rfl) ?_
    refine ops_nil ?_
    refine at_then ?_
    refine run_cond (b := (decide (a5245 < (a5242.length : Int)))) rfl (fun hb5250 => ?_) (fun hb5250 => ?_)
    · replace ho5239 := cond_t hb5250 ho5239
      refine run_skip ?_
      refine at_then ?_
      refine run_seq ?_
      refine run_block ?_
      refine run_seq ?_
      obtain ⟨e5251, ho5239⟩ := chk_some ho5239
      refine run_region rfl ?_
      refine ops_ex rfl (guard_none rfl) rfl rfl (ex_move rfl rfl) ?_
      refine ops_ex rfl (guard_none rfl) rfl rfl (ex_move rfl rfl) ?_
      refine ops_ex rfl (guard_none rfl) rfl rfl (ex_move rfl rfl) ?_
      refine ops_ex rfl (guard_none rfl) rfl rfl (ex_indexAddr (d := kInt) rfl rfl rfl Tryz.underlying60 tsz2 (HM.own_rd 0 rfl) (idx_lo e5251) (idx_hi e5251)) ?_
      refine ops_doesS rfl (guard_none rfl) rfl (does_setElem (vs := [(.int .i64 a5244)]) (y := a5244) kInt rfl rfl rfl rfl rfl tsz2 rfl rfl (idx_nat e5251) (fun _ _ h => ⟨rfl, h⟩) (HM.emp.front 1 rfl rfl)) ?_
      rintro w5252 HM
      refine ops_nil ?_
      refine at_then ?_
      refine run_region rfl ?_
      refine ops_ex rfl (guard_none rfl) rfl rfl (ex_move rfl rfl) ?_
      refine ops_ex rfl (guard_none rfl) rfl rfl (ex_add rfl rfl rfl) ?_
      refine ops_ex rfl (guard_none rfl) rfl rfl (ex_assign rfl rfl) ?_
      refine ops_nil ?_
      refine at_block ?_
      refine at_then ?_
      refine run_region rfl ?_
      refine ops_ex rfl (guard_none rfl) rfl rfl (ex_move rfl rfl) ?_
      refine ops_ex rfl (guard_none rfl) rfl rfl (ex_add rfl rfl rfl) ?_
      refine ops_ex rfl (guard_none rfl) rfl rfl (ex_assign rfl rfl) ?_
      refine ops_nil ?_
      exact at_again k5248 (ρ1 := [(0, p0), (1, .int .i64 (wrap64 (a5244 + 1))), (5, .int .i64 (wrap64 (a5245 + 1)))]) (Nat.lt_succ_self _) ⟨_, _, _, ho5239, rfl, HM⟩ (Sub.cons rfl (Sub.cons rfl (Sub.cons rfl Sub.nil)))
    · replace ho5239 := cond_f hb5250 ho5239
      refine run_exit ?_
      refine at_then_exit ?_
      refine at_then_exit ?_
      refine at_block_exit ?_
      exact at_mid (ρ' := [(1, .int .i64 a5244)]) ⟨_, _, (Option.some.inj ho5239), rfl, HM⟩ (Sub.cons rfl Sub.nil)
  · rintro _ w5253 ⟨a5235, a5237, rfl, rfl, HM⟩
    replace H := cur2_mk H
    refine run_seq ?_
    refine run_region rfl ?_
    refine ops_ex rfl (guard_none rfl) rfl rfl (ex_move rfl rfl) ?_
    refine ops_ex rfl (guard_none rfl) rfl rfl (ex_assign rfl rfl) ?_
    refine ops_nil ?_
    refine at_then ?_
    refine run_ret ?_
    have hR := Option.some.inj H
    subst hR
    exact at_ret1 rfl rfl ⟨_, rfl, rfl, HM⟩

def laws_markCoinS.l0  : Nat → (List Coin) → Int → Int → Option ((List Coin) × Int)
  | 0, _, _, _ => none
  | k + 1, a5417, a5419, a5420 => (bif (decide (a5420 < (a5417.length : Int))) then (chk (idxOk a5420 a5417.length) ((laws_markInt64S.f k ((gt a5417 a5420).fOut.fRule.fKeys) (wrap64 ((wrap64 ((wrap64 (a5419 + 1)) + 1)) + 1))).bind fun t5457 => (chk ((3 : Int) != 0) (laws_markCoinS.l0 k (a5417.set (a5420).toNat (⟨(⟨a5419, wrap64 (a5419 + 1)⟩ : Ref), (⟨wrap64 ((wrap64 (a5419 + 1)) + 1), (⟨t5457.2, t5457.1, wrap64 (t5457.1 + 1)⟩ : Rule)⟩ : Out), wrap64 ((wrap64 (t5457.1 + 1)) + 1), ((Int.tmod (wrap64 ((wrap64 ((wrap64 (t5457.1 + 1)) + 1)) + 1)) (3 : Int)) == 0)⟩ : Coin)) (wrap64 ((wrap64 ((wrap64 ((wrap64 (t5457.1 + 1)) + 1)) + 1)) + 1)) (wrap64 (a5420 + 1)))))) else some (a5417, a5419))
theorem laws_markCoinS.l0_z  (a5417 : List Coin) (a5419 : Int) (a5420 : Int) : laws_markCoinS.l0 0 a5417 a5419 a5420 = none := rfl
theorem laws_markCoinS.l0_s  (k : Nat) (a5417 : List Coin) (a5419 : Int) (a5420 : Int) : laws_markCoinS.l0 (k + 1) a5417 a5419 a5420 = (bif (decide (a5420 < (a5417.length : Int))) then (chk (idxOk a5420 a5417.length) ((laws_markInt64S.f k ((gt a5417 a5420).fOut.fRule.fKeys) (wrap64 ((wrap64 ((wrap64 (a5419 + 1)) + 1)) + 1))).bind fun t5457 => (chk ((3 : Int) != 0) (laws_markCoinS.l0 k (a5417.set (a5420).toNat (⟨(⟨a5419, wrap64 (a5419 + 1)⟩ : Ref), (⟨wrap64 ((wrap64 (a5419 + 1)) + 1), (⟨t5457.2, t5457.1, wrap64 (t5457.1 + 1)⟩ : Rule)⟩ : Out), wrap64 ((wrap64 (t5457.1 + 1)) + 1), ((Int.tmod (wrap64 ((wrap64 ((wrap64 (t5457.1 + 1)) + 1)) + 1)) (3 : Int)) == 0)⟩ : Coin)) (wrap64 ((wrap64 ((wrap64 ((wrap64 (t5457.1 + 1)) + 1)) + 1)) + 1)) (wrap64 (a5420 + 1)))))) else some (a5417, a5419)) := rfl
def laws_markCoinS.f (k : Nat) (x0 : List Coin) (x1 : Int) : Option (Int × (List Coin)) := ((laws_markCoinS.l0 k x0 x1 0).bind (cur2 (fun a5390 a5392 => some (a5392, a5390))))
theorem laws_markCoinS.calls {k : Nat} {x0 : List Coin} {x1 : Int} {p0 : Value} {w wo : World} {X : List Nat} (hwo : Olds wo w X) (hX : Hold w [own kCoin 77 p0 x0] X) (hXn : X.Nodup) (hXl : ∀ b ∈ X, b < w.heap.size)  {r : Int × (List Coin)} (H : laws_markCoinS.f k x0 x1 = some r) :
    Calls Tryz.prog 16 ([p0, .int .i64 x1] : List Value).toArray w (fun e w_ => ∃ v, e = .returned v ∧ v = (.int .i64 r.1) ∧ Mem w X w_ [own kCoin 77 p0 r.2]) := by
  have HM := Mem.startX hX hXn hXl
  refine calls_run (N := 80) Tryz.func16 rfl rfl rfl rfl ?_
  unfold laws_markCoinS.f at H
  refine run_seq ?_
  refine run_region rfl ?_
  refine ops_ex rfl (guard_none rfl) rfl rfl (ex_assign rfl rfl) ?_
  refine ops_nil ?_
  refine at_then ?_
  obtain ⟨o5393, ho5394, H⟩ := bind_some H
  refine run_mid (fun ρ_ w_ => ∃ a5390 : List Coin, ∃ a5392 : Int, (a5390, a5392) = o5393 ∧ ρ_ = [(1, .int .i64 a5392)] ∧ Mem w X w_ [own kCoin 77 p0 a5390]) ?_ ?_
  · clear H
    refine run_seq ?_
    refine run_region rfl ?_
    refine ops_ex rfl (guard_none rfl) rfl rfl (ex_assign rfl rfl) ?_
    refine ops_nil ?_
    refine at_then ?_
    refine run_block ?_
    refine run_loop (fun k_ ρ_ w_ => ∃ a5417 : List Coin, ∃ a5419 : Int, ∃ a5420 : Int, laws_markCoinS.l0 k_ a5417 a5419 a5420 = some o5393 ∧ ρ_ = [(0, p0), (1, .int .i64 a5419), (5, .int .i64 a5420)] ∧ Mem w X w_ [own kCoin 77 p0 a5417]) k (ρ1 := [(0, p0), (1, .int .i64 x1), (5, .int .i64 0)]) ⟨_, _, _, ho5394, rfl, HM⟩ (Sub.cons rfl (Sub.cons rfl (Sub.cons rfl Sub.nil))) ?_
    clear HM ho5394
    rintro k5443 _ w5444 ⟨a5417, a5419, a5420, ho5394, rfl, HM⟩
    obtain _ | k5443 := k5443
    · exact nomatch ((laws_markCoinS.l0_z a5417 a5419 a5420).symm.trans ho5394)
    replace ho5394 := (laws_markCoinS.l0_s k5443 a5417 a5419 a5420).symm.trans ho5394
    refine run_seq ?_
    refine run_seq ?_
    refine run_region rfl ?_
    refine ops_ex rfl (guard_none rfl) rfl rfl (ex_move rfl rfl) ?_
    refine ops_ex rfl (guard_none rfl) rfl rfl (ex_move rfl rfl) ?_
    refine ops_ex rfl (guard_none rfl) rfl rfl (ex_len (d := kCoin) (xs := a5417) rfl rfl Tryz.underlying29 (HM.own_rd 0 rfl)) ?_
    refine ops_ex rfl (guard_none rfl) rfl rfl (ex_lss rfl rfl rfl) ?_
    refine ops_nil ?_
    refine at_then ?_
    refine run_cond (b := (decide (a5420 < (a5417.length : Int)))) rfl (fun hb5445 => ?_) (fun hb5445 => ?_)
    · replace ho5394 := cond_t hb5445 ho5394
      refine run_skip ?_
      refine at_then ?_
      refine run_seq ?_
      refine run_block ?_
      refine run_seq ?_
      obtain ⟨e5446, ho5394⟩ := chk_some ho5394
      refine run_region rfl ?_
      refine ops_ex rfl (guard_none rfl) rfl rfl (ex_move rfl rfl) ?_
      refine ops_ex rfl (guard_none rfl) rfl rfl (ex_move rfl rfl) ?_
      refine ops_ex rfl (guard_none rfl) rfl rfl (ex_move rfl rfl) ?_
      refine ops_ex rfl (guard_none rfl) rfl rfl (ex_indexAddr (d := kCoin) rfl rfl rfl Tryz.underlying29 tsz77 (HM.own_rd 0 rfl) (idx_lo e5446) (idx_hi e5446)) ?_
      refine ops_ex rfl (guard_none rfl) rfl rfl (ex_fieldAddr (off' := so p0 + (a5420).toNat * 8) rfl rfl Tryz.underlying77 rfl tsz56 rfl) ?_
      refine ops_ex rfl (guard_none rfl) rfl rfl (ex_fieldAddr (off' := so p0 + (a5420).toNat * 8) rfl rfl Tryz.underlying56 rfl tsz2 rfl) ?_
      refine ops_doesS rfl (guard_none rfl) rfl (does_setField (fo := 0) (vs := [(.int .i64 a5419)]) (y := (⟨(⟨a5419, (gt a5417 a5420).fRef.fAt⟩ : Ref), (gt a5417 a5420).fOut, (gt a5417 a5420).fHeight, (gt a5417 a5420).fMined⟩ : Coin)) kCoin rfl rfl rfl rfl rfl tsz2 (Ones.int Ones.nil) rfl rfl (idx_nat e5446) (fun _ _ _ h => by rw [← gt_eq (idx_nat e5446)] at h; obtain ⟨_, rfl, h2⟩ := h; exact ⟨_, rfl, h2⟩) HM) ?_
      rintro w5447 HM
      refine ops_nil ?_
      refine at_then ?_
      refine run_seq ?_
      refine run_region rfl ?_
      refine ops_ex rfl (guard_none rfl) rfl rfl (ex_move rfl rfl) ?_
      refine ops_ex rfl (guard_none rfl) rfl rfl (ex_add rfl rfl rfl) ?_
      refine ops_ex rfl (guard_none rfl) rfl rfl (ex_assign rfl rfl) ?_
      refine ops_nil ?_
      refine at_then ?_
      refine run_seq ?_
      refine run_region rfl ?_
      refine ops_ex rfl (guard_none rfl) rfl rfl (ex_move rfl rfl) ?_
      refine ops_ex rfl (guard_none rfl) rfl rfl (ex_move rfl rfl) ?_
      refine ops_ex rfl (guard_none rfl) rfl rfl (ex_move rfl rfl) ?_
      have e5448 : idxOk a5420 (a5417.set (a5420).toNat (⟨(⟨a5419, (gt a5417 a5420).fRef.fAt⟩ : Ref), (gt a5417 a5420).fOut, (gt a5417 a5420).fHeight, (gt a5417 a5420).fMined⟩ : Coin)).length = true := len_set e5446
      refine ops_ex rfl (guard_none rfl) rfl rfl (ex_indexAddr (d := kCoin) rfl rfl rfl Tryz.underlying29 tsz77 (HM.own_rd 0 rfl) (idx_lo e5448) (idx_hi e5448)) ?_
      refine ops_ex rfl (guard_none rfl) rfl rfl (ex_fieldAddr (off' := so p0 + (a5420).toNat * 8) rfl rfl Tryz.underlying77 rfl tsz56 rfl) ?_
      refine ops_ex rfl (guard_none rfl) rfl rfl (ex_fieldAddr (off' := so p0 + (a5420).toNat * 8 + 1) rfl rfl Tryz.underlying56 rfl tsz2 rfl) ?_
      refine ops_doesS rfl (guard_none rfl) rfl (does_setField (fo := 1) (vs := [(.int .i64 (wrap64 (a5419 + 1)))]) (y := (⟨(⟨a5419, wrap64 (a5419 + 1)⟩ : Ref), (gt a5417 a5420).fOut, (gt a5417 a5420).fHeight, (gt a5417 a5420).fMined⟩ : Coin)) kCoin rfl rfl rfl rfl rfl tsz2 (Ones.int Ones.nil) rfl rfl (idx_nat e5448) (fun _ _ _ h => by rw [List.getElem_set_self] at h; obtain ⟨_, rfl, h2⟩ := h; exact ⟨_, rfl, h2⟩) HM) ?_
      rintro w5449 HM
      replace HM := HM.set2
      refine ops_nil ?_
      refine at_then ?_
      refine run_seq ?_
      refine run_region rfl ?_
      refine ops_ex rfl (guard_none rfl) rfl rfl (ex_move rfl rfl) ?_
      refine ops_ex rfl (guard_none rfl) rfl rfl (ex_add rfl rfl rfl) ?_
      refine ops_ex rfl (guard_none rfl) rfl rfl (ex_assign rfl rfl) ?_
      refine ops_nil ?_
      refine at_then ?_
      refine run_seq ?_
      refine run_region rfl ?_
      refine ops_ex rfl (guard_none rfl) rfl rfl (ex_move rfl rfl) ?_
      refine ops_ex rfl (guard_none rfl) rfl rfl (ex_move rfl rfl) ?_
      refine ops_ex rfl (guard_none rfl) rfl rfl (ex_move rfl rfl) ?_
      have e5450 : idxOk a5420 (a5417.set (a5420).toNat (⟨(⟨a5419, wrap64 (a5419 + 1)⟩ : Ref), (gt a5417 a5420).fOut, (gt a5417 a5420).fHeight, (gt a5417 a5420).fMined⟩ : Coin)).length = true := len_set e5446
      refine ops_ex rfl (guard_none rfl) rfl rfl (ex_indexAddr (d := kCoin) rfl rfl rfl Tryz.underlying29 tsz77 (HM.own_rd 0 rfl) (idx_lo e5450) (idx_hi e5450)) ?_
      refine ops_ex rfl (guard_none rfl) rfl rfl (ex_fieldAddr (off' := so p0 + (a5420).toNat * 8 + 2) rfl rfl Tryz.underlying77 rfl tsz75 rfl) ?_
      refine ops_ex rfl (guard_none rfl) rfl rfl (ex_fieldAddr (off' := so p0 + (a5420).toNat * 8 + 2) rfl rfl Tryz.underlying75 rfl tsz2 rfl) ?_
      refine ops_doesS rfl (guard_none rfl) rfl (does_setField (fo := 2) (vs := [(.int .i64 (wrap64 ((wrap64 (a5419 + 1)) + 1)))]) (y := (⟨(⟨a5419, wrap64 (a5419 + 1)⟩ : Ref), (⟨wrap64 ((wrap64 (a5419 + 1)) + 1), (gt a5417 a5420).fOut.fRule⟩ : Out), (gt a5417 a5420).fHeight, (gt a5417 a5420).fMined⟩ : Coin)) kCoin rfl rfl rfl rfl rfl tsz2 (Ones.int Ones.nil) rfl rfl (idx_nat e5450) (fun _ _ _ h => by rw [List.getElem_set_self] at h; obtain ⟨_, rfl, h2⟩ := h; exact ⟨_, rfl, h2⟩) HM) ?_
      rintro w5451 HM
      replace HM := HM.set2
      refine ops_nil ?_
      refine at_then ?_
      refine run_seq ?_
      refine run_region rfl ?_
      refine ops_ex rfl (guard_none rfl) rfl rfl (ex_move rfl rfl) ?_
      refine ops_ex rfl (guard_none rfl) rfl rfl (ex_add rfl rfl rfl) ?_
      refine ops_ex rfl (guard_none rfl) rfl rfl (ex_assign rfl rfl) ?_
      refine ops_nil ?_
      refine at_then ?_
      refine run_seq ?_
      obtain ⟨t5457, h5458, ho5394⟩ := bind_some ho5394
      refine run_region rfl ?_
      refine ops_ex rfl (guard_none rfl) rfl rfl (ex_move rfl rfl) ?_
      refine ops_ex rfl (guard_none rfl) rfl rfl (ex_move rfl rfl) ?_
      have e5452 : idxOk a5420 (a5417.set (a5420).toNat (⟨(⟨a5419, wrap64 (a5419 + 1)⟩ : Ref), (⟨wrap64 ((wrap64 (a5419 + 1)) + 1), (gt a5417 a5420).fOut.fRule⟩ : Out), (gt a5417 a5420).fHeight, (gt a5417 a5420).fMined⟩ : Coin)).length = true := len_set e5446
      refine ops_ex rfl (guard_none rfl) rfl rfl (ex_indexAddr (d := kCoin) rfl rfl rfl Tryz.underlying29 tsz77 (HM.own_rd 0 rfl) (idx_lo e5452) (idx_hi e5452)) ?_
      refine ops_ex rfl (guard_none rfl) rfl rfl (ex_fieldAddr (off' := so p0 + (a5420).toNat * 8 + 2) rfl rfl Tryz.underlying77 rfl tsz75 rfl) ?_
      refine ops_ex rfl (guard_none rfl) rfl rfl (ex_fieldAddr (off' := so p0 + (a5420).toNat * 8 + 3) rfl rfl Tryz.underlying75 rfl tsz73 rfl) ?_
      refine ops_ex rfl (guard_none rfl) rfl rfl (ex_fieldAddr (off' := so p0 + (a5420).toNat * 8 + 3) rfl rfl Tryz.underlying73 rfl tsz60 rfl) ?_
      obtain ⟨u5453, hc5454, HM⟩ := HM.open1 e5452 (gt_set2 e5446)
      refine ops_ex rfl (guard_none rfl) rfl rfl (ex_load1 rfl rfl Tryz.underlying60 rfl (hc5454 3 _ rfl)) ?_
      refine ops_ex rfl (guard_none rfl) rfl rfl (ex_move rfl rfl) ?_
      obtain ⟨F5459, hF5460, hFn5461, hFl5462, HMh5463, hcl5464⟩ := HM.hide (Ms := [own kInt 2 u5453 ((gt a5417 a5420).fOut.fRule.fKeys)])
      refine ops_does rfl (guard_none rfl) rfl rfl (does_callk rfl callok43 rfl (laws_markInt64S.calls (x0 := (gt a5417 a5420).fOut.fRule.fKeys) (x1 := wrap64 ((wrap64 ((wrap64 (a5419 + 1)) + 1)) + 1)) (hide_olds _ _) hF5460 hFn5461 hFl5462 h5458)) ?_
      rintro _ w5465 ⟨rfl, hn⟩
      replace HM : Mem w X w5465 [own kInt 2 u5453 t5457.2, hole kCoin (fun u_ => [(.int .i64 a5419), (.int .i64 (wrap64 (a5419 + 1))), (.int .i64 (wrap64 ((wrap64 (a5419 + 1)) + 1))), u_, (.int .i64 ((gt a5417 a5420).fOut.fRule.fNeed)), (.int .i64 ((gt a5417 a5420).fOut.fRule.fAfter)), (.int .i64 ((gt a5417 a5420).fHeight)), (.bool ((gt a5417 a5420).fMined))]) 77 p0 (a5417.set (a5420).toNat (⟨(⟨a5419, wrap64 (a5419 + 1)⟩ : Ref), (⟨wrap64 ((wrap64 (a5419 + 1)) + 1), (gt a5417 a5420).fOut.fRule⟩ : Out), (gt a5417 a5420).fHeight, (gt a5417 a5420).fMined⟩ : Coin)) (a5420).toNat u5453] := hcl5464 _ _ hn
      replace HM := HM.front 1 rfl rfl
      replace HM := HM.front 1 rfl rfl
      replace HM := Mem.close1 (⟨(⟨a5419, wrap64 (a5419 + 1)⟩ : Ref), (⟨wrap64 ((wrap64 (a5419 + 1)) + 1), (⟨t5457.2, (gt a5417 a5420).fOut.fRule.fNeed, (gt a5417 a5420).fOut.fRule.fAfter⟩ : Rule)⟩ : Out), (gt a5417 a5420).fHeight, (gt a5417 a5420).fMined⟩ : Coin) HM rfl rfl
      replace HM := HM.set2
      refine ops_ex rfl (guard_none rfl) rfl rfl (ex_assign rfl rfl) ?_
      refine ops_nil ?_
      refine at_then ?_
      refine run_seq ?_
      refine run_region rfl ?_
      refine ops_ex rfl (guard_none rfl) rfl rfl (ex_move rfl rfl) ?_
      refine ops_ex rfl (guard_none rfl) rfl rfl (ex_move rfl rfl) ?_
      refine ops_ex rfl (guard_none rfl) rfl rfl (ex_move rfl rfl) ?_
      have e5466 : idxOk a5420 (a5417.set (a5420).toNat (⟨(⟨a5419, wrap64 (a5419 + 1)⟩ : Ref), (⟨wrap64 ((wrap64 (a5419 + 1)) + 1), (⟨t5457.2, (gt a5417 a5420).fOut.fRule.fNeed, (gt a5417 a5420).fOut.fRule.fAfter⟩ : Rule)⟩ : Out), (gt a5417 a5420).fHeight, (gt a5417 a5420).fMined⟩ : Coin)).length = true := len_set e5446
      refine ops_ex rfl (guard_none rfl) rfl rfl (ex_indexAddr (d := kCoin) rfl rfl rfl Tryz.underlying29 tsz77 (HM.own_rd 0 rfl) (idx_lo e5466) (idx_hi e5466)) ?_
      refine ops_ex rfl (guard_none rfl) rfl rfl (ex_fieldAddr (off' := so p0 + (a5420).toNat * 8 + 2) rfl rfl Tryz.underlying77 rfl tsz75 rfl) ?_
      refine ops_ex rfl (guard_none rfl) rfl rfl (ex_fieldAddr (off' := so p0 + (a5420).toNat * 8 + 3) rfl rfl Tryz.underlying75 rfl tsz73 rfl) ?_
      refine ops_ex rfl (guard_none rfl) rfl rfl (ex_fieldAddr (off' := so p0 + (a5420).toNat * 8 + 4) rfl rfl Tryz.underlying73 rfl tsz2 rfl) ?_
      refine ops_doesS rfl (guard_none rfl) rfl (does_setField (fo := 4) (vs := [(.int .i64 t5457.1)]) (y := (⟨(⟨a5419, wrap64 (a5419 + 1)⟩ : Ref), (⟨wrap64 ((wrap64 (a5419 + 1)) + 1), (⟨t5457.2, t5457.1, (gt a5417 a5420).fOut.fRule.fAfter⟩ : Rule)⟩ : Out), (gt a5417 a5420).fHeight, (gt a5417 a5420).fMined⟩ : Coin)) kCoin rfl rfl rfl rfl rfl tsz2 (Ones.int Ones.nil) rfl rfl (idx_nat e5466) (fun _ _ _ h => by rw [List.getElem_set_self] at h; obtain ⟨_, rfl, h2⟩ := h; exact ⟨_, rfl, h2⟩) HM) ?_
      rintro w5467 HM
      replace HM := HM.set2
      refine ops_nil ?_
      refine at_then ?_
      refine run_seq ?_
      refine run_region rfl ?_
      refine ops_ex rfl (guard_none rfl) rfl rfl (ex_move rfl rfl) ?_
      refine ops_ex rfl (guard_none rfl) rfl rfl (ex_add rfl rfl rfl) ?_
      refine ops_ex rfl (guard_none rfl) rfl rfl (ex_assign rfl rfl) ?_
      refine ops_nil ?_
      refine at_then ?_
      refine run_seq ?_
      refine run_region rfl ?_
      refine ops_ex rfl (guard_none rfl) rfl rfl (ex_move rfl rfl) ?_
      refine ops_ex rfl (guard_none rfl) rfl rfl (ex_move rfl rfl) ?_
      refine ops_ex rfl (guard_none rfl) rfl rfl (ex_move rfl rfl) ?_
      have e5468 : idxOk a5420 (a5417.set (a5420).toNat (⟨(⟨a5419, wrap64 (a5419 + 1)⟩ : Ref), (⟨wrap64 ((wrap64 (a5419 + 1)) + 1), (⟨t5457.2, t5457.1, (gt a5417 a5420).fOut.fRule.fAfter⟩ : Rule)⟩ : Out), (gt a5417 a5420).fHeight, (gt a5417 a5420).fMined⟩ : Coin)).length = true := len_set e5446
      refine ops_ex rfl (guard_none rfl) rfl rfl (ex_indexAddr (d := kCoin) rfl rfl rfl Tryz.underlying29 tsz77 (HM.own_rd 0 rfl) (idx_lo e5468) (idx_hi e5468)) ?_
      refine ops_ex rfl (guard_none rfl) rfl rfl (ex_fieldAddr (off' := so p0 + (a5420).toNat * 8 + 2) rfl rfl Tryz.underlying77 rfl tsz75 rfl) ?_
      refine ops_ex rfl (guard_none rfl) rfl rfl (ex_fieldAddr (off' := so p0 + (a5420).toNat * 8 + 3) rfl rfl Tryz.underlying75 rfl tsz73 rfl) ?_
      refine ops_ex rfl (guard_none rfl) rfl rfl (ex_fieldAddr (off' := so p0 + (a5420).toNat * 8 + 5) rfl rfl Tryz.underlying73 rfl tsz2 rfl) ?_
      refine ops_doesS rfl (guard_none rfl) rfl (does_setField (fo := 5) (vs := [(.int .i64 (wrap64 (t5457.1 + 1)))]) (y := (⟨(⟨a5419, wrap64 (a5419 + 1)⟩ : Ref), (⟨wrap64 ((wrap64 (a5419 + 1)) + 1), (⟨t5457.2, t5457.1, wrap64 (t5457.1 + 1)⟩ : Rule)⟩ : Out), (gt a5417 a5420).fHeight, (gt a5417 a5420).fMined⟩ : Coin)) kCoin rfl rfl rfl rfl rfl tsz2 (Ones.int Ones.nil) rfl rfl (idx_nat e5468) (fun _ _ _ h => by rw [List.getElem_set_self] at h; obtain ⟨_, rfl, h2⟩ := h; exact ⟨_, rfl, h2⟩) HM) ?_
      rintro w5469 HM
      replace HM := HM.set2
      refine ops_nil ?_
      refine at_then ?_
      refine run_seq ?_
      refine run_region rfl ?_
      refine ops_ex rfl (guard_none rfl) rfl rfl (ex_move rfl rfl) ?_
      refine ops_ex rfl (guard_none rfl) rfl rfl (ex_add rfl rfl rfl) ?_
      refine ops_ex rfl (guard_none rfl) rfl rfl (ex_assign rfl rfl) ?_
      refine ops_nil ?_
      refine at_then ?_
      refine run_seq ?_
      refine run_region rfl ?_
      refine ops_ex rfl (guard_none rfl) rfl rfl (ex_move rfl rfl) ?_
      refine ops_ex rfl (guard_none rfl) rfl rfl (ex_move rfl rfl) ?_
      refine ops_ex rfl (guard_none rfl) rfl rfl (ex_move rfl rfl) ?_
      have e5470 : idxOk a5420 (a5417.set (a5420).toNat (⟨(⟨a5419, wrap64 (a5419 + 1)⟩ : Ref), (⟨wrap64 ((wrap64 (a5419 + 1)) + 1), (⟨t5457.2, t5457.1, wrap64 (t5457.1 + 1)⟩ : Rule)⟩ : Out), (gt a5417 a5420).fHeight, (gt a5417 a5420).fMined⟩ : Coin)).length = true := len_set e5446
      refine ops_ex rfl (guard_none rfl) rfl rfl (ex_indexAddr (d := kCoin) rfl rfl rfl Tryz.underlying29 tsz77 (HM.own_rd 0 rfl) (idx_lo e5470) (idx_hi e5470)) ?_
      refine ops_ex rfl (guard_none rfl) rfl rfl (ex_fieldAddr (off' := so p0 + (a5420).toNat * 8 + 6) rfl rfl Tryz.underlying77 rfl tsz2 rfl) ?_
      refine ops_doesS rfl (guard_none rfl) rfl (does_setField (fo := 6) (vs := [(.int .i64 (wrap64 ((wrap64 (t5457.1 + 1)) + 1)))]) (y := (⟨(⟨a5419, wrap64 (a5419 + 1)⟩ : Ref), (⟨wrap64 ((wrap64 (a5419 + 1)) + 1), (⟨t5457.2, t5457.1, wrap64 (t5457.1 + 1)⟩ : Rule)⟩ : Out), wrap64 ((wrap64 (t5457.1 + 1)) + 1), (gt a5417 a5420).fMined⟩ : Coin)) kCoin rfl rfl rfl rfl rfl tsz2 (Ones.int Ones.nil) rfl rfl (idx_nat e5470) (fun _ _ _ h => by rw [List.getElem_set_self] at h; obtain ⟨_, rfl, h2⟩ := h; exact ⟨_, rfl, h2⟩) HM) ?_
      rintro w5471 HM
      replace HM := HM.set2
      refine ops_nil ?_
      refine at_then ?_
      refine run_seq ?_
      refine run_region rfl ?_
      refine ops_ex rfl (guard_none rfl) rfl rfl (ex_move rfl rfl) ?_
      refine ops_ex rfl (guard_none rfl) rfl rfl (ex_add rfl rfl rfl) ?_
      refine ops_ex rfl (guard_none rfl) rfl rfl (ex_assign rfl rfl) ?_
      refine ops_nil ?_
      refine at_then ?_
      refine run_seq ?_
      obtain ⟨e5472, ho5394⟩ := chk_some ho5394
      refine run_region rfl ?_
      refine ops_ex rfl (guard_none rfl) rfl rfl (ex_move rfl rfl) ?_
      refine ops_ex rfl (guard_none rfl) rfl rfl (ex_move rfl rfl) ?_
      refine ops_ex rfl (guard_none rfl) rfl rfl (ex_move rfl rfl) ?_
      refine ops_ex rfl (guard_none rfl) rfl rfl (ex_remk rfl rfl rfl e5472) ?_
      refine ops_ex rfl (guard_none rfl) rfl rfl (ex_eql rfl rfl rfl) ?_
      have e5473 : idxOk a5420 (a5417.set (a5420).toNat (⟨(⟨a5419, wrap64 (a5419 + 1)⟩ : Ref), (⟨wrap64 ((wrap64 (a5419 + 1)) + 1), (⟨t5457.2, t5457.1, wrap64 (t5457.1 + 1)⟩ : Rule)⟩ : Out), wrap64 ((wrap64 (t5457.1 + 1)) + 1), (gt a5417 a5420).fMined⟩ : Coin)).length = true := len_set e5446
      refine ops_ex rfl (guard_none rfl) rfl rfl (ex_indexAddr (d := kCoin) rfl rfl rfl Tryz.underlying29 tsz77 (HM.own_rd 0 rfl) (idx_lo e5473) (idx_hi e5473)) ?_
      refine ops_ex rfl (guard_none rfl) rfl rfl (ex_fieldAddr (off' := so p0 + (a5420).toNat * 8 + 7) rfl rfl Tryz.underlying77 rfl tsz4 rfl) ?_
      refine ops_doesS rfl (guard_none rfl) rfl (does_setField (fo := 7) (vs := [(.bool ((Int.tmod (wrap64 ((wrap64 ((wrap64 (t5457.1 + 1)) + 1)) + 1)) (3 : Int)) == 0))]) (y := (⟨(⟨a5419, wrap64 (a5419 + 1)⟩ : Ref), (⟨wrap64 ((wrap64 (a5419 + 1)) + 1), (⟨t5457.2, t5457.1, wrap64 (t5457.1 + 1)⟩ : Rule)⟩ : Out), wrap64 ((wrap64 (t5457.1 + 1)) + 1), ((Int.tmod (wrap64 ((wrap64 ((wrap64 (t5457.1 + 1)) + 1)) + 1)) (3 : Int)) == 0)⟩ : Coin)) kCoin rfl rfl rfl rfl rfl tsz4 (Ones.bool Ones.nil) rfl rfl (idx_nat e5473) (fun _ _ _ h => by rw [List.getElem_set_self] at h; obtain ⟨_, rfl, h2⟩ := h; exact ⟨_, rfl, h2⟩) HM) ?_
      rintro w5474 HM
      replace HM := HM.set2
      refine ops_nil ?_
      refine at_then ?_
      refine run_region rfl ?_
      refine ops_ex rfl (guard_none rfl) rfl rfl (ex_move rfl rfl) ?_
      refine ops_ex rfl (guard_none rfl) rfl rfl (ex_add rfl rfl rfl) ?_
      refine ops_ex rfl (guard_none rfl) rfl rfl (ex_assign rfl rfl) ?_
      refine ops_nil ?_
      refine at_block ?_
      refine at_then ?_
      refine run_region rfl ?_
      refine ops_ex rfl (guard_none rfl) rfl rfl (ex_move rfl rfl) ?_
      refine ops_ex rfl (guard_none rfl) rfl rfl (ex_add rfl rfl rfl) ?_
      refine ops_ex rfl (guard_none rfl) rfl rfl (ex_assign rfl rfl) ?_
      refine ops_nil ?_
      exact at_again k5443 (ρ1 := [(0, p0), (1, .int .i64 (wrap64 ((wrap64 ((wrap64 ((wrap64 (t5457.1 + 1)) + 1)) + 1)) + 1))), (5, .int .i64 (wrap64 (a5420 + 1)))]) (Nat.lt_succ_self _) ⟨_, _, _, ho5394, rfl, HM⟩ (Sub.cons rfl (Sub.cons rfl (Sub.cons rfl Sub.nil)))
    · replace ho5394 := cond_f hb5445 ho5394
      refine run_exit ?_
      refine at_then_exit ?_
      refine at_then_exit ?_
      refine at_block_exit ?_
      exact at_mid (ρ' := [(1, .int .i64 a5419)]) ⟨_, _, (Option.some.inj ho5394), rfl, HM⟩ (Sub.cons rfl Sub.nil)
  · rintro _ w5475 ⟨a5390, a5392, rfl, rfl, HM⟩
    replace H := cur2_mk H
    refine run_seq ?_
    refine run_region rfl ?_
    refine ops_ex rfl (guard_none rfl) rfl rfl (ex_move rfl rfl) ?_
    refine ops_ex rfl (guard_none rfl) rfl rfl (ex_assign rfl rfl) ?_
    refine ops_nil ?_
    refine at_then ?_
    refine run_ret ?_
    have hR := Option.some.inj H
    subst hR
    exact at_ret1 rfl rfl ⟨_, rfl, rfl, HM⟩

def laws_markRefS.l0  : Nat → (List Ref) → Int → Int → Option ((List Ref) × Int)
  | 0, _, _, _ => none
  | k + 1, a5530, a5532, a5533 => (bif (decide (a5533 < (a5530.length : Int))) then (chk (idxOk a5533 a5530.length) (laws_markRefS.l0 k (a5530.set (a5533).toNat (⟨a5532, wrap64 (a5532 + 1)⟩ : Ref)) (wrap64 ((wrap64 (a5532 + 1)) + 1)) (wrap64 (a5533 + 1)))) else some (a5530, a5532))
theorem laws_markRefS.l0_z  (a5530 : List Ref) (a5532 : Int) (a5533 : Int) : laws_markRefS.l0 0 a5530 a5532 a5533 = none := rfl
theorem laws_markRefS.l0_s  (k : Nat) (a5530 : List Ref) (a5532 : Int) (a5533 : Int) : laws_markRefS.l0 (k + 1) a5530 a5532 a5533 = (bif (decide (a5533 < (a5530.length : Int))) then (chk (idxOk a5533 a5530.length) (laws_markRefS.l0 k (a5530.set (a5533).toNat (⟨a5532, wrap64 (a5532 + 1)⟩ : Ref)) (wrap64 ((wrap64 (a5532 + 1)) + 1)) (wrap64 (a5533 + 1)))) else some (a5530, a5532)) := rfl
def laws_markRefS.f (k : Nat) (x0 : List Ref) (x1 : Int) : Option (Int × (List Ref)) := ((laws_markRefS.l0 k x0 x1 0).bind (cur2 (fun a5522 a5524 => some (a5524, a5522))))
theorem laws_markRefS.calls {k : Nat} {x0 : List Ref} {x1 : Int} {p0 : Value} {w wo : World} {X : List Nat} (hwo : Olds wo w X) (hX : Hold w [own kRef 56 p0 x0] X) (hXn : X.Nodup) (hXl : ∀ b ∈ X, b < w.heap.size)  {r : Int × (List Ref)} (H : laws_markRefS.f k x0 x1 = some r) :
    Calls Tryz.prog 44 ([p0, .int .i64 x1] : List Value).toArray w (fun e w_ => ∃ v, e = .returned v ∧ v = (.int .i64 r.1) ∧ Mem w X w_ [own kRef 56 p0 r.2]) := by
  have HM := Mem.startX hX hXn hXl
  refine calls_run (N := 27) Tryz.func44 rfl rfl rfl rfl ?_
  unfold laws_markRefS.f at H
  refine run_seq ?_
  refine run_region rfl ?_
  refine ops_ex rfl (guard_none rfl) rfl rfl (ex_assign rfl rfl) ?_
  refine ops_nil ?_
  refine at_then ?_
  obtain ⟨o5525, ho5526, H⟩ := bind_some H
  refine run_mid (fun ρ_ w_ => ∃ a5522 : List Ref, ∃ a5524 : Int, (a5522, a5524) = o5525 ∧ ρ_ = [(1, .int .i64 a5524)] ∧ Mem w X w_ [own kRef 56 p0 a5522]) ?_ ?_
  · clear H
    refine run_seq ?_
    refine run_region rfl ?_
    refine ops_ex rfl (guard_none rfl) rfl rfl (ex_assign rfl rfl) ?_
    refine ops_nil ?_
    refine at_then ?_
    refine run_block ?_
    refine run_loop (fun k_ ρ_ w_ => ∃ a5530 : List Ref, ∃ a5532 : Int, ∃ a5533 : Int, laws_markRefS.l0 k_ a5530 a5532 a5533 = some o5525 ∧ ρ_ = [(0, p0), (1, .int .i64 a5532), (5, .int .i64 a5533)] ∧ Mem w X w_ [own kRef 56 p0 a5530]) k (ρ1 := [(0, p0), (1, .int .i64 x1), (5, .int .i64 0)]) ⟨_, _, _, ho5526, rfl, HM⟩ (Sub.cons rfl (Sub.cons rfl (Sub.cons rfl Sub.nil))) ?_
    clear HM ho5526
    rintro k5537 _ w5538 ⟨a5530, a5532, a5533, ho5526, rfl, HM⟩
    obtain _ | k5537 := k5537
    · exact nomatch ((laws_markRefS.l0_z a5530 a5532 a5533).symm.trans ho5526)
    replace ho5526 := (laws_markRefS.l0_s k5537 a5530 a5532 a5533).symm.trans ho5526
    refine run_seq ?_
    refine run_seq ?_
    refine run_region rfl ?_
    refine ops_ex rfl (guard_none rfl) rfl rfl (ex_move rfl rfl) ?_
    refine ops_ex rfl (guard_none rfl) rfl rfl (ex_move rfl rfl) ?_
    refine ops_ex rfl (guard_none rfl) rfl rfl (ex_len (d := kRef) (xs := a5530) rfl rfl Tryz.underlying34 (HM.own_rd 0 rfl)) ?_
    refine ops_ex rfl (guard_none rfl) rfl rfl (ex_lss rfl rfl rfl) ?_
    refine ops_nil ?_
    refine at_then ?_
    refine run_cond (b := (decide (a5533 < (a5530.length : Int)))) rfl (fun hb5539 => ?_) (fun hb5539 => ?_)
    · replace ho5526 := cond_t hb5539 ho5526
      refine run_skip ?_
      refine at_then ?_
      refine run_seq ?_
      refine run_block ?_
      refine run_seq ?_
      obtain ⟨e5540, ho5526⟩ := chk_some ho5526
      refine run_region rfl ?_
      refine ops_ex rfl (guard_none rfl) rfl rfl (ex_move rfl rfl) ?_
      refine ops_ex rfl (guard_none rfl) rfl rfl (ex_move rfl rfl) ?_
      refine ops_ex rfl (guard_none rfl) rfl rfl (ex_move rfl rfl) ?_
      refine ops_ex rfl (guard_none rfl) rfl rfl (ex_indexAddr (d := kRef) rfl rfl rfl Tryz.underlying34 tsz56 (HM.own_rd 0 rfl) (idx_lo e5540) (idx_hi e5540)) ?_
      refine ops_ex rfl (guard_none rfl) rfl rfl (ex_fieldAddr (off' := so p0 + (a5533).toNat * 2) rfl rfl Tryz.underlying56 rfl tsz2 rfl) ?_
      refine ops_doesS rfl (guard_none rfl) rfl (does_setField (fo := 0) (vs := [(.int .i64 a5532)]) (y := (⟨a5532, (gt a5530 a5533).fAt⟩ : Ref)) kRef rfl rfl rfl rfl rfl tsz2 (Ones.int Ones.nil) rfl rfl (idx_nat e5540) (fun _ _ _ h => by rw [← gt_eq (idx_nat e5540)] at h; obtain ⟨rfl, h2⟩ := h; exact ⟨rfl, h2⟩) HM) ?_
      rintro w5541 HM
      refine ops_nil ?_
      refine at_then ?_
      refine run_seq ?_
      refine run_region rfl ?_
      refine ops_ex rfl (guard_none rfl) rfl rfl (ex_move rfl rfl) ?_
      refine ops_ex rfl (guard_none rfl) rfl rfl (ex_add rfl rfl rfl) ?_
      refine ops_ex rfl (guard_none rfl) rfl rfl (ex_assign rfl rfl) ?_
      refine ops_nil ?_
      refine at_then ?_
      refine run_seq ?_
      refine run_region rfl ?_
      refine ops_ex rfl (guard_none rfl) rfl rfl (ex_move rfl rfl) ?_
      refine ops_ex rfl (guard_none rfl) rfl rfl (ex_move rfl rfl) ?_
      refine ops_ex rfl (guard_none rfl) rfl rfl (ex_move rfl rfl) ?_
      have e5542 : idxOk a5533 (a5530.set (a5533).toNat (⟨a5532, (gt a5530 a5533).fAt⟩ : Ref)).length = true := len_set e5540
      refine ops_ex rfl (guard_none rfl) rfl rfl (ex_indexAddr (d := kRef) rfl rfl rfl Tryz.underlying34 tsz56 (HM.own_rd 0 rfl) (idx_lo e5542) (idx_hi e5542)) ?_
      refine ops_ex rfl (guard_none rfl) rfl rfl (ex_fieldAddr (off' := so p0 + (a5533).toNat * 2 + 1) rfl rfl Tryz.underlying56 rfl tsz2 rfl) ?_
      refine ops_doesS rfl (guard_none rfl) rfl (does_setField (fo := 1) (vs := [(.int .i64 (wrap64 (a5532 + 1)))]) (y := (⟨a5532, wrap64 (a5532 + 1)⟩ : Ref)) kRef rfl rfl rfl rfl rfl tsz2 (Ones.int Ones.nil) rfl rfl (idx_nat e5542) (fun _ _ _ h => by rw [List.getElem_set_self] at h; obtain ⟨rfl, h2⟩ := h; exact ⟨rfl, h2⟩) HM) ?_
      rintro w5543 HM
      replace HM := HM.set2
      refine ops_nil ?_
      refine at_then ?_
      refine run_region rfl ?_
      refine ops_ex rfl (guard_none rfl) rfl rfl (ex_move rfl rfl) ?_
      refine ops_ex rfl (guard_none rfl) rfl rfl (ex_add rfl rfl rfl) ?_
      refine ops_ex rfl (guard_none rfl) rfl rfl (ex_assign rfl rfl) ?_
      refine ops_nil ?_
      refine at_block ?_
      refine at_then ?_
      refine run_region rfl ?_
      refine ops_ex rfl (guard_none rfl) rfl rfl (ex_move rfl rfl) ?_
      refine ops_ex rfl (guard_none rfl) rfl rfl (ex_add rfl rfl rfl) ?_
      refine ops_ex rfl (guard_none rfl) rfl rfl (ex_assign rfl rfl) ?_
      refine ops_nil ?_
      exact at_again k5537 (ρ1 := [(0, p0), (1, .int .i64 (wrap64 ((wrap64 (a5532 + 1)) + 1))), (5, .int .i64 (wrap64 (a5533 + 1)))]) (Nat.lt_succ_self _) ⟨_, _, _, ho5526, rfl, HM⟩ (Sub.cons rfl (Sub.cons rfl (Sub.cons rfl Sub.nil)))
    · replace ho5526 := cond_f hb5539 ho5526
      refine run_exit ?_
      refine at_then_exit ?_
      refine at_then_exit ?_
      refine at_block_exit ?_
      exact at_mid (ρ' := [(1, .int .i64 a5532)]) ⟨_, _, (Option.some.inj ho5526), rfl, HM⟩ (Sub.cons rfl Sub.nil)
  · rintro _ w5544 ⟨a5522, a5524, rfl, rfl, HM⟩
    replace H := cur2_mk H
    refine run_seq ?_
    refine run_region rfl ?_
    refine ops_ex rfl (guard_none rfl) rfl rfl (ex_move rfl rfl) ?_
    refine ops_ex rfl (guard_none rfl) rfl rfl (ex_assign rfl rfl) ?_
    refine ops_nil ?_
    refine at_then ?_
    refine run_ret ?_
    have hR := Option.some.inj H
    subst hR
    exact at_ret1 rfl rfl ⟨_, rfl, rfl, HM⟩

def laws_markOutS.l0  : Nat → (List Out) → Int → Int → Option ((List Out) × Int)
  | 0, _, _, _ => none
  | k + 1, a5703, a5705, a5706 => (bif (decide (a5706 < (a5703.length : Int))) then (chk (idxOk a5706 a5703.length) ((laws_markInt64S.f k ((gt a5703 a5706).fRule.fKeys) (wrap64 (a5705 + 1))).bind fun t5734 => laws_markOutS.l0 k (a5703.set (a5706).toNat (⟨a5705, (⟨t5734.2, t5734.1, wrap64 (t5734.1 + 1)⟩ : Rule)⟩ : Out)) (wrap64 ((wrap64 (t5734.1 + 1)) + 1)) (wrap64 (a5706 + 1)))) else some (a5703, a5705))
theorem laws_markOutS.l0_z  (a5703 : List Out) (a5705 : Int) (a5706 : Int) : laws_markOutS.l0 0 a5703 a5705 a5706 = none := rfl
theorem laws_markOutS.l0_s  (k : Nat) (a5703 : List Out) (a5705 : Int) (a5706 : Int) : laws_markOutS.l0 (k + 1) a5703 a5705 a5706 = (bif (decide (a5706 < (a5703.length : Int))) then (chk (idxOk a5706 a5703.length) ((laws_markInt64S.f k ((gt a5703 a5706).fRule.fKeys) (wrap64 (a5705 + 1))).bind fun t5734 => laws_markOutS.l0 k (a5703.set (a5706).toNat (⟨a5705, (⟨t5734.2, t5734.1, wrap64 (t5734.1 + 1)⟩ : Rule)⟩ : Out)) (wrap64 ((wrap64 (t5734.1 + 1)) + 1)) (wrap64 (a5706 + 1)))) else some (a5703, a5705)) := rfl
def laws_markOutS.f (k : Nat) (x0 : List Out) (x1 : Int) : Option (Int × (List Out)) := ((laws_markOutS.l0 k x0 x1 0).bind (cur2 (fun a5681 a5683 => some (a5683, a5681))))
theorem laws_markOutS.calls {k : Nat} {x0 : List Out} {x1 : Int} {p0 : Value} {w wo : World} {X : List Nat} (hwo : Olds wo w X) (hX : Hold w [own kOut 75 p0 x0] X) (hXn : X.Nodup) (hXl : ∀ b ∈ X, b < w.heap.size)  {r : Int × (List Out)} (H : laws_markOutS.f k x0 x1 = some r) :
    Calls Tryz.prog 45 ([p0, .int .i64 x1] : List Value).toArray w (fun e w_ => ∃ v, e = .returned v ∧ v = (.int .i64 r.1) ∧ Mem w X w_ [own kOut 75 p0 r.2]) := by
  have HM := Mem.startX hX hXn hXl
  refine calls_run (N := 44) Tryz.func45 rfl rfl rfl rfl ?_
  unfold laws_markOutS.f at H
  refine run_seq ?_
  refine run_region rfl ?_
  refine ops_ex rfl (guard_none rfl) rfl rfl (ex_assign rfl rfl) ?_
  refine ops_nil ?_
  refine at_then ?_
  obtain ⟨o5684, ho5685, H⟩ := bind_some H
  refine run_mid (fun ρ_ w_ => ∃ a5681 : List Out, ∃ a5683 : Int, (a5681, a5683) = o5684 ∧ ρ_ = [(1, .int .i64 a5683)] ∧ Mem w X w_ [own kOut 75 p0 a5681]) ?_ ?_
  · clear H
    refine run_seq ?_
    refine run_region rfl ?_
    refine ops_ex rfl (guard_none rfl) rfl rfl (ex_assign rfl rfl) ?_
    refine ops_nil ?_
    refine at_then ?_
    refine run_block ?_
    refine run_loop (fun k_ ρ_ w_ => ∃ a5703 : List Out, ∃ a5705 : Int, ∃ a5706 : Int, laws_markOutS.l0 k_ a5703 a5705 a5706 = some o5684 ∧ ρ_ = [(0, p0), (1, .int .i64 a5705), (5, .int .i64 a5706)] ∧ Mem w X w_ [own kOut 75 p0 a5703]) k (ρ1 := [(0, p0), (1, .int .i64 x1), (5, .int .i64 0)]) ⟨_, _, _, ho5685, rfl, HM⟩ (Sub.cons rfl (Sub.cons rfl (Sub.cons rfl Sub.nil))) ?_
    clear HM ho5685
    rintro k5724 _ w5725 ⟨a5703, a5705, a5706, ho5685, rfl, HM⟩
    obtain _ | k5724 := k5724
    · exact nomatch ((laws_markOutS.l0_z a5703 a5705 a5706).symm.trans ho5685)
    replace ho5685 := (laws_markOutS.l0_s k5724 a5703 a5705 a5706).symm.trans ho5685
    refine run_seq ?_
    refine run_seq ?_
    refine run_region rfl ?_
    refine ops_ex rfl (guard_none rfl) rfl rfl (ex_move rfl rfl) ?_
    refine ops_ex rfl (guard_none rfl) rfl rfl (ex_move rfl rfl) ?_
    refine ops_ex rfl (guard_none rfl) rfl rfl (ex_len (d := kOut) (xs := a5703) rfl rfl Tryz.underlying35 (HM.own_rd 0 rfl)) ?_
    refine ops_ex rfl (guard_none rfl) rfl rfl (ex_lss rfl rfl rfl) ?_
    refine ops_nil ?_
    refine at_then ?_
    refine run_cond (b := (decide (a5706 < (a5703.length : Int)))) rfl (fun hb5726 => ?_) (fun hb5726 => ?_)
    · replace ho5685 := cond_t hb5726 ho5685
      refine run_skip ?_
      refine at_then ?_
      refine run_seq ?_
      refine run_block ?_
      refine run_seq ?_
      obtain ⟨e5727, ho5685⟩ := chk_some ho5685
      refine run_region rfl ?_
      refine ops_ex rfl (guard_none rfl) rfl rfl (ex_move rfl rfl) ?_
      refine ops_ex rfl (guard_none rfl) rfl rfl (ex_move rfl rfl) ?_
      refine ops_ex rfl (guard_none rfl) rfl rfl (ex_move rfl rfl) ?_
      refine ops_ex rfl (guard_none rfl) rfl rfl (ex_indexAddr (d := kOut) rfl rfl rfl Tryz.underlying35 tsz75 (HM.own_rd 0 rfl) (idx_lo e5727) (idx_hi e5727)) ?_
      refine ops_ex rfl (guard_none rfl) rfl rfl (ex_fieldAddr (off' := so p0 + (a5706).toNat * 4) rfl rfl Tryz.underlying75 rfl tsz2 rfl) ?_
      refine ops_doesS rfl (guard_none rfl) rfl (does_setField (fo := 0) (vs := [(.int .i64 a5705)]) (y := (⟨a5705, (gt a5703 a5706).fRule⟩ : Out)) kOut rfl rfl rfl rfl rfl tsz2 (Ones.int Ones.nil) rfl rfl (idx_nat e5727) (fun _ _ _ h => by rw [← gt_eq (idx_nat e5727)] at h; obtain ⟨_, rfl, h2⟩ := h; exact ⟨_, rfl, h2⟩) HM) ?_
      rintro w5728 HM
      refine ops_nil ?_
      refine at_then ?_
      refine run_seq ?_
      refine run_region rfl ?_
      refine ops_ex rfl (guard_none rfl) rfl rfl (ex_move rfl rfl) ?_
      refine ops_ex rfl (guard_none rfl) rfl rfl (ex_add rfl rfl rfl) ?_
      refine ops_ex rfl (guard_none rfl) rfl rfl (ex_assign rfl rfl) ?_
      refine ops_nil ?_
      refine at_then ?_
      refine run_seq ?_
      obtain ⟨t5734, h5735, ho5685⟩ := bind_some ho5685
      refine run_region rfl ?_
      refine ops_ex rfl (guard_none rfl) rfl rfl (ex_move rfl rfl) ?_
      refine ops_ex rfl (guard_none rfl) rfl rfl (ex_move rfl rfl) ?_
      have e5729 : idxOk a5706 (a5703.set (a5706).toNat (⟨a5705, (gt a5703 a5706).fRule⟩ : Out)).length = true := len_set e5727
      refine ops_ex rfl (guard_none rfl) rfl rfl (ex_indexAddr (d := kOut) rfl rfl rfl Tryz.underlying35 tsz75 (HM.own_rd 0 rfl) (idx_lo e5729) (idx_hi e5729)) ?_
      refine ops_ex rfl (guard_none rfl) rfl rfl (ex_fieldAddr (off' := so p0 + (a5706).toNat * 4 + 1) rfl rfl Tryz.underlying75 rfl tsz73 rfl) ?_
      refine ops_ex rfl (guard_none rfl) rfl rfl (ex_fieldAddr (off' := so p0 + (a5706).toNat * 4 + 1) rfl rfl Tryz.underlying73 rfl tsz60 rfl) ?_
      obtain ⟨u5730, hc5731, HM⟩ := HM.open1 e5729 (gt_set2 e5727)
      refine ops_ex rfl (guard_none rfl) rfl rfl (ex_load1 rfl rfl Tryz.underlying60 rfl (hc5731 1 _ rfl)) ?_
      refine ops_ex rfl (guard_none rfl) rfl rfl (ex_move rfl rfl) ?_
      obtain ⟨F5736, hF5737, hFn5738, hFl5739, HMh5740, hcl5741⟩ := HM.hide (Ms := [own kInt 2 u5730 ((gt a5703 a5706).fRule.fKeys)])
      refine ops_does rfl (guard_none rfl) rfl rfl (does_callk rfl callok43 rfl (laws_markInt64S.calls (x0 := (gt a5703 a5706).fRule.fKeys) (x1 := wrap64 (a5705 + 1)) (hide_olds _ _) hF5737 hFn5738 hFl5739 h5735)) ?_
      rintro _ w5742 ⟨rfl, hn⟩
      replace HM : Mem w X w5742 [own kInt 2 u5730 t5734.2, hole kOut (fun u_ => [(.int .i64 a5705), u_, (.int .i64 ((gt a5703 a5706).fRule.fNeed)), (.int .i64 ((gt a5703 a5706).fRule.fAfter))]) 75 p0 (a5703.set (a5706).toNat (⟨a5705, (gt a5703 a5706).fRule⟩ : Out)) (a5706).toNat u5730] := hcl5741 _ _ hn
      replace HM := HM.front 1 rfl rfl
      replace HM := HM.front 1 rfl rfl
      replace HM := Mem.close1 (⟨a5705, (⟨t5734.2, (gt a5703 a5706).fRule.fNeed, (gt a5703 a5706).fRule.fAfter⟩ : Rule)⟩ : Out) HM rfl rfl
      replace HM := HM.set2
      refine ops_ex rfl (guard_none rfl) rfl rfl (ex_assign rfl rfl) ?_
      refine ops_nil ?_
      refine at_then ?_
      refine run_seq ?_
      refine run_region rfl ?_
      refine ops_ex rfl (guard_none rfl) rfl rfl (ex_move rfl rfl) ?_
      refine ops_ex rfl (guard_none rfl) rfl rfl (ex_move rfl rfl) ?_
      refine ops_ex rfl (guard_none rfl) rfl rfl (ex_move rfl rfl) ?_
      have e5743 : idxOk a5706 (a5703.set (a5706).toNat (⟨a5705, (⟨t5734.2, (gt a5703 a5706).fRule.fNeed, (gt a5703 a5706).fRule.fAfter⟩ : Rule)⟩ : Out)).length = true := len_set e5727
      refine ops_ex rfl (guard_none rfl) rfl rfl (ex_indexAddr (d := kOut) rfl rfl rfl Tryz.underlying35 tsz75 (HM.own_rd 0 rfl) (idx_lo e5743) (idx_hi e5743)) ?_
      refine ops_ex rfl (guard_none rfl) rfl rfl (ex_fieldAddr (off' := so p0 + (a5706).toNat * 4 + 1) rfl rfl Tryz.underlying75 rfl tsz73 rfl) ?_
      refine ops_ex rfl (guard_none rfl) rfl rfl (ex_fieldAddr (off' := so p0 + (a5706).toNat * 4 + 2) rfl rfl Tryz.underlying73 rfl tsz2 rfl) ?_
      refine ops_doesS rfl (guard_none rfl) rfl (does_setField (fo := 2) (vs := [(.int .i64 t5734.1)]) (y := (⟨a5705, (⟨t5734.2, t5734.1, (gt a5703 a5706).fRule.fAfter⟩ : Rule)⟩ : Out)) kOut rfl rfl rfl rfl rfl tsz2 (Ones.int Ones.nil) rfl rfl (idx_nat e5743) (fun _ _ _ h => by rw [List.getElem_set_self] at h; obtain ⟨_, rfl, h2⟩ := h; exact ⟨_, rfl, h2⟩) HM) ?_
      rintro w5744 HM
      replace HM := HM.set2
      refine ops_nil ?_
      refine at_then ?_
      refine run_seq ?_
      refine run_region rfl ?_
      refine ops_ex rfl (guard_none rfl) rfl rfl (ex_move rfl rfl) ?_
      refine ops_ex rfl (guard_none rfl) rfl rfl (ex_add rfl rfl rfl) ?_
      refine ops_ex rfl (guard_none rfl) rfl rfl (ex_assign rfl rfl) ?_
      refine ops_nil ?_
      refine at_then ?_
      refine run_seq ?_
      refine run_region rfl ?_
      refine ops_ex rfl (guard_none rfl) rfl rfl (ex_move rfl rfl) ?_
      refine ops_ex rfl (guard_none rfl) rfl rfl (ex_move rfl rfl) ?_
      refine ops_ex rfl (guard_none rfl) rfl rfl (ex_move rfl rfl) ?_
      have e5745 : idxOk a5706 (a5703.set (a5706).toNat (⟨a5705, (⟨t5734.2, t5734.1, (gt a5703 a5706).fRule.fAfter⟩ : Rule)⟩ : Out)).length = true := len_set e5727
      refine ops_ex rfl (guard_none rfl) rfl rfl (ex_indexAddr (d := kOut) rfl rfl rfl Tryz.underlying35 tsz75 (HM.own_rd 0 rfl) (idx_lo e5745) (idx_hi e5745)) ?_
      refine ops_ex rfl (guard_none rfl) rfl rfl (ex_fieldAddr (off' := so p0 + (a5706).toNat * 4 + 1) rfl rfl Tryz.underlying75 rfl tsz73 rfl) ?_
      refine ops_ex rfl (guard_none rfl) rfl rfl (ex_fieldAddr (off' := so p0 + (a5706).toNat * 4 + 3) rfl rfl Tryz.underlying73 rfl tsz2 rfl) ?_
      refine ops_doesS rfl (guard_none rfl) rfl (does_setField (fo := 3) (vs := [(.int .i64 (wrap64 (t5734.1 + 1)))]) (y := (⟨a5705, (⟨t5734.2, t5734.1, wrap64 (t5734.1 + 1)⟩ : Rule)⟩ : Out)) kOut rfl rfl rfl rfl rfl tsz2 (Ones.int Ones.nil) rfl rfl (idx_nat e5745) (fun _ _ _ h => by rw [List.getElem_set_self] at h; obtain ⟨_, rfl, h2⟩ := h; exact ⟨_, rfl, h2⟩) HM) ?_
      rintro w5746 HM
      replace HM := HM.set2
      refine ops_nil ?_
      refine at_then ?_
      refine run_region rfl ?_
      refine ops_ex rfl (guard_none rfl) rfl rfl (ex_move rfl rfl) ?_
      refine ops_ex rfl (guard_none rfl) rfl rfl (ex_add rfl rfl rfl) ?_
      refine ops_ex rfl (guard_none rfl) rfl rfl (ex_assign rfl rfl) ?_
      refine ops_nil ?_
      refine at_block ?_
      refine at_then ?_
      refine run_region rfl ?_
      refine ops_ex rfl (guard_none rfl) rfl rfl (ex_move rfl rfl) ?_
      refine ops_ex rfl (guard_none rfl) rfl rfl (ex_add rfl rfl rfl) ?_
      refine ops_ex rfl (guard_none rfl) rfl rfl (ex_assign rfl rfl) ?_
      refine ops_nil ?_
      exact at_again k5724 (ρ1 := [(0, p0), (1, .int .i64 (wrap64 ((wrap64 (t5734.1 + 1)) + 1))), (5, .int .i64 (wrap64 (a5706 + 1)))]) (Nat.lt_succ_self _) ⟨_, _, _, ho5685, rfl, HM⟩ (Sub.cons rfl (Sub.cons rfl (Sub.cons rfl Sub.nil)))
    · replace ho5685 := cond_f hb5726 ho5685
      refine run_exit ?_
      refine at_then_exit ?_
      refine at_then_exit ?_
      refine at_block_exit ?_
      exact at_mid (ρ' := [(1, .int .i64 a5705)]) ⟨_, _, (Option.some.inj ho5685), rfl, HM⟩ (Sub.cons rfl Sub.nil)
  · rintro _ w5747 ⟨a5681, a5683, rfl, rfl, HM⟩
    replace H := cur2_mk H
    refine run_seq ?_
    refine run_region rfl ?_
    refine ops_ex rfl (guard_none rfl) rfl rfl (ex_move rfl rfl) ?_
    refine ops_ex rfl (guard_none rfl) rfl rfl (ex_assign rfl rfl) ?_
    refine ops_nil ?_
    refine at_then ?_
    refine run_ret ?_
    have hR := Option.some.inj H
    subst hR
    exact at_ret1 rfl rfl ⟨_, rfl, rfl, HM⟩

def laws_markTx.f (k : Nat) (x0 : Tx) (x1 : Int) : Option (Int × (List Ref) × (List Out)) := ((laws_markRefS.f k x0.fIns x1).bind fun t5760 => ((laws_markOutS.f k x0.fOuts t5760.1).bind fun t5769 => some (t5769.1, t5760.2, t5769.2)))
theorem laws_markTx.calls {k : Nat} {x0 : Tx} {x1 : Int} {p0_0 : Value} {p0_1 : Value} {w wo : World} {X : List Nat} (hwo : Olds wo w X) (hX : Hold w [own kRef 56 p0_0 x0.fIns, own kOut 75 p0_1 x0.fOuts] X) (hXn : X.Nodup) (hXl : ∀ b ∈ X, b < w.heap.size)  {r : Int × (List Ref) × (List Out)} (H : laws_markTx.f k x0 x1 = some r) :
    Calls Tryz.prog 17 ([.agg #[(.int .i64 x0.fKind), (.int .i64 x0.fMember), p0_0, p0_1], .int .i64 x1] : List Value).toArray w (fun e w_ => ∃ v, e = .returned v ∧ v = (.int .i64 r.1) ∧ Mem w X w_ [own kRef 56 p0_0 r.2.1, own kOut 75 p0_1 r.2.2]) := by
  have HM := Mem.startX hX hXn hXl
  refine calls_run (N := 14) Tryz.func17 rfl rfl rfl rfl ?_
  unfold laws_markTx.f at H
  refine run_seq ?_
  refine run_region rfl ?_
  refine ops_does rfl (guard_none rfl) rfl rfl (does_box (cs := [.int .i64 x0.fKind, .int .i64 x0.fMember, p0_0, p0_1]) rfl rfl rfl HM) ?_
  rintro _ w5759 ⟨b5756, rfl, HM⟩
  refine ops_ex rfl (guard_none rfl) rfl rfl (ex_assign rfl rfl) ?_
  refine ops_nil ?_
  refine at_then ?_
  refine run_seq ?_
  obtain ⟨t5760, h5761, H⟩ := bind_some H
  refine run_region rfl ?_
  refine ops_ex rfl (guard_none rfl) rfl rfl (ex_fieldAddr (off' := 2) rfl rfl Tryz.underlying37 rfl tsz34 rfl) ?_
  refine ops_ex rfl (guard_none rfl) rfl rfl (ex_load1 rfl rfl Tryz.underlying34 rfl ((HM.box_at 0 rfl) 2 _ rfl)) ?_
  refine ops_ex rfl (guard_none rfl) rfl rfl (ex_move rfl rfl) ?_
  replace HM := HM.front 1 rfl rfl
  obtain ⟨F5762, hF5763, hFn5764, hFl5765, HMh5766, hcl5767⟩ := HM.hide (Ms := [own kRef 56 p0_0 x0.fIns])
  refine ops_does rfl (guard_none rfl) rfl rfl (does_callk rfl callok44 rfl (laws_markRefS.calls (x0 := x0.fIns) (x1 := x1) (hide_olds _ _) hF5763 hFn5764 hFl5765 h5761)) ?_
  rintro _ w5768 ⟨rfl, hn⟩
  replace HM : Mem w X w5768 [own kRef 56 p0_0 t5760.2, box b5756 37 [.int .i64 x0.fKind, .int .i64 x0.fMember, p0_0, p0_1], own kOut 75 p0_1 x0.fOuts] := hcl5767 _ _ hn
  refine ops_ex rfl (guard_none rfl) rfl rfl (ex_assign rfl rfl) ?_
  refine ops_nil ?_
  refine at_then ?_
  refine run_seq ?_
  obtain ⟨t5769, h5770, H⟩ := bind_some H
  refine run_region rfl ?_
  refine ops_ex rfl (guard_none rfl) rfl rfl (ex_fieldAddr (off' := 3) rfl rfl Tryz.underlying37 rfl tsz35 rfl) ?_
  refine ops_ex rfl (guard_none rfl) rfl rfl (ex_load1 rfl rfl Tryz.underlying35 rfl ((HM.box_at 1 rfl) 3 _ rfl)) ?_
  refine ops_ex rfl (guard_none rfl) rfl rfl (ex_move rfl rfl) ?_
  replace HM := HM.front 2 rfl rfl
  obtain ⟨F5771, hF5772, hFn5773, hFl5774, HMh5775, hcl5776⟩ := HM.hide (Ms := [own kOut 75 p0_1 x0.fOuts])
  refine ops_does rfl (guard_none rfl) rfl rfl (does_callk rfl callok45 rfl (laws_markOutS.calls (x0 := x0.fOuts) (x1 := t5760.1) (hide_olds _ _) hF5772 hFn5773 hFl5774 h5770)) ?_
  rintro _ w5777 ⟨rfl, hn⟩
  replace HM : Mem w X w5777 [own kOut 75 p0_1 t5769.2, own kRef 56 p0_0 t5760.2, box b5756 37 [.int .i64 x0.fKind, .int .i64 x0.fMember, p0_0, p0_1]] := hcl5776 _ _ hn
  refine ops_ex rfl (guard_none rfl) rfl rfl (ex_assign rfl rfl) ?_
  refine ops_nil ?_
  refine at_then ?_
  refine run_seq ?_
  refine run_region rfl ?_
  refine ops_ex rfl (guard_none rfl) rfl rfl (ex_move rfl rfl) ?_
  refine ops_ex rfl (guard_none rfl) rfl rfl (ex_assign rfl rfl) ?_
  refine ops_nil ?_
  refine at_then ?_
  refine run_ret ?_
  replace HM := (HM.front 2 rfl rfl).drop
  replace HM := HM.front 1 rfl rfl
  have hR := Option.some.inj H
  subst hR
  exact at_ret1 rfl rfl ⟨_, rfl, rfl, HM⟩

def laws_markCoinsResult.f (k : Nat) (x0 : CoinsResult) (x1 : Int) : Option (Int × (List Coin)) := ((laws_markCoinS.f k x0.fCoins x1).bind fun t5813 => some (t5813.1, t5813.2))
theorem laws_markCoinsResult.calls {k : Nat} {x0 : CoinsResult} {x1 : Int} {p0_0 : Value} {w wo : World} {X : List Nat} (hwo : Olds wo w X) (hX : Hold w [own kCoin 77 p0_0 x0.fCoins] X) (hXn : X.Nodup) (hXl : ∀ b ∈ X, b < w.heap.size)  {r : Int × (List Coin)} (H : laws_markCoinsResult.f k x0 x1 = some r) :
    Calls Tryz.prog 18 ([.agg #[(.int .i64 x0.fCode), p0_0], .int .i64 x1] : List Value).toArray w (fun e w_ => ∃ v, e = .returned v ∧ v = (.int .i64 r.1) ∧ Mem w X w_ [own kCoin 77 p0_0 r.2]) := by
  have HM := Mem.startX hX hXn hXl
  refine calls_run (N := 10) Tryz.func18 rfl rfl rfl rfl ?_
  unfold laws_markCoinsResult.f at H
  refine run_seq ?_
  refine run_region rfl ?_
  refine ops_does rfl (guard_none rfl) rfl rfl (does_box (cs := [.int .i64 x0.fCode, p0_0]) rfl rfl rfl HM) ?_
  rintro _ w5812 ⟨b5809, rfl, HM⟩
  refine ops_ex rfl (guard_none rfl) rfl rfl (ex_assign rfl rfl) ?_
  refine ops_nil ?_
  refine at_then ?_
  refine run_seq ?_
  obtain ⟨t5813, h5814, H⟩ := bind_some H
  refine run_region rfl ?_
  refine ops_ex rfl (guard_none rfl) rfl rfl (ex_fieldAddr (off' := 1) rfl rfl Tryz.underlying31 rfl tsz29 rfl) ?_
  refine ops_ex rfl (guard_none rfl) rfl rfl (ex_load1 rfl rfl Tryz.underlying29 rfl ((HM.box_at 0 rfl) 1 _ rfl)) ?_
  refine ops_ex rfl (guard_none rfl) rfl rfl (ex_move rfl rfl) ?_
  replace HM := HM.front 1 rfl rfl
  obtain ⟨F5815, hF5816, hFn5817, hFl5818, HMh5819, hcl5820⟩ := HM.hide (Ms := [own kCoin 77 p0_0 x0.fCoins])
  refine ops_does rfl (guard_none rfl) rfl rfl (does_callk rfl callok16 rfl (laws_markCoinS.calls (x0 := x0.fCoins) (x1 := x1) (hide_olds _ _) hF5816 hFn5817 hFl5818 h5814)) ?_
  rintro _ w5821 ⟨rfl, hn⟩
  replace HM : Mem w X w5821 [own kCoin 77 p0_0 t5813.2, box b5809 31 [.int .i64 x0.fCode, p0_0]] := hcl5820 _ _ hn
  refine ops_ex rfl (guard_none rfl) rfl rfl (ex_assign rfl rfl) ?_
  refine ops_nil ?_
  refine at_then ?_
  refine run_seq ?_
  refine run_region rfl ?_
  refine ops_ex rfl (guard_none rfl) rfl rfl (ex_move rfl rfl) ?_
  refine ops_ex rfl (guard_none rfl) rfl rfl (ex_assign rfl rfl) ?_
  refine ops_nil ?_
  refine at_then ?_
  refine run_ret ?_
  replace HM := (HM.front 1 rfl rfl).drop
  have hR := Option.some.inj H
  subst hR
  exact at_ret1 rfl rfl ⟨_, rfl, rfl, HM⟩
end Go.Proofs.YtcamddjlhchkfaaGreat.Zk
