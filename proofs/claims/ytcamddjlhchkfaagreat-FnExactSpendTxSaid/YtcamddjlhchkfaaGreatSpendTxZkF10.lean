/- What functions of the program compute, each as a plain function, and that they do. Conditions: as each theorem states them. -/
import Derived.Test.YtcamddjlhchkfaaGreatSpendTxZkF9
namespace Go.Proofs.YtcamddjlhchkfaaGreat.Zk
open Go Go.RowKit Go.IntWalk Go.Proofs
set_option linter.unusedVariables false
set_option linter.unusedSimpArgs false
set_option maxRecDepth 100000
set_option maxHeartbeats 4000000
def laws_eqTx.f (k : Nat) (x0 : Tx) (x1 : Tx) : Option Bool := (bif (x0.fKind != x1.fKind) then some false else (bif (x0.fMember != x1.fMember) then some false else ((laws_eqRefS.f k x0.fIns x1.fIns).bind fun t6989 => (bif !t6989 then some false else ((laws_eqOutS.f k x0.fOuts x1.fOuts).bind fun t6993 => (bif !t6993 then some false else some true))))))
theorem laws_eqTx.calls {k : Nat} {x0 : Tx} {x1 : Tx} {p0_0 : Value} {p0_1 : Value} {p1_0 : Value} {p1_1 : Value} {w : World} (hp0_0 : RdS kRef w p0_0 x0.fIns) (hp0_1 : RdS kOut w p0_1 x0.fOuts) (hp1_0 : RdS kRef w p1_0 x1.fIns) (hp1_1 : RdS kOut w p1_1 x1.fOuts) {r : Bool} (H : laws_eqTx.f k x0 x1 = some r) :
    Calls Tryz.prog 15 ([.agg #[(.int .i64 x0.fKind), (.int .i64 x0.fMember), p0_0, p0_1], .agg #[(.int .i64 x1.fKind), (.int .i64 x1.fMember), p1_0, p1_1]] : List Value).toArray w (fun e w_ => ∃ v, e = .returned v ∧ v = (.bool r) ∧ Mem w [] w_ []) := by
  have HM := Mem.start w
  refine calls_run (N := 27) Tryz.func15 rfl rfl rfl rfl ?_
  unfold laws_eqTx.f at H
  refine run_seq ?_
  refine run_region rfl ?_
  refine ops_does rfl (guard_none rfl) rfl rfl (does_box (cs := [.int .i64 x0.fKind, .int .i64 x0.fMember, p0_0, p0_1]) rfl rfl rfl HM) ?_
  rintro _ w6980 ⟨b6974, rfl, HM⟩
  refine ops_does rfl (guard_none rfl) rfl rfl (does_box (cs := [.int .i64 x1.fKind, .int .i64 x1.fMember, p1_0, p1_1]) rfl rfl rfl HM) ?_
  rintro _ w6981 ⟨b6977, rfl, HM⟩
  refine ops_ex rfl (guard_none rfl) rfl rfl (ex_assign rfl rfl) ?_
  refine ops_nil ?_
  refine at_then ?_
  refine run_seq ?_
  refine run_seq ?_
  refine run_region rfl ?_
  refine ops_ex rfl (guard_none rfl) rfl rfl (ex_fieldAddr (off' := 0) rfl rfl Tryz.underlying37 rfl tsz2 rfl) ?_
  refine ops_ex rfl (guard_none rfl) rfl rfl (ex_load1 rfl rfl Tryz.underlying2 rfl ((HM.box_at 1 rfl) 0 _ rfl)) ?_
  refine ops_ex rfl (guard_none rfl) rfl rfl (ex_fieldAddr (off' := 0) rfl rfl Tryz.underlying37 rfl tsz2 rfl) ?_
  refine ops_ex rfl (guard_none rfl) rfl rfl (ex_load1 rfl rfl Tryz.underlying2 rfl ((HM.box_at 0 rfl) 0 _ rfl)) ?_
  refine ops_ex rfl (guard_none rfl) rfl rfl (ex_neq rfl rfl rfl) ?_
  refine ops_nil ?_
  refine at_then ?_
  refine run_cond (b := (x0.fKind != x1.fKind)) rfl (fun hb6983 => ?_) (fun hb6983 => ?_)
  · replace H := cond_t hb6983 H
    refine run_seq ?_
    refine run_region rfl ?_
    refine ops_ex rfl (guard_none rfl) rfl rfl (ex_assign rfl rfl) ?_
    refine ops_nil ?_
    refine at_then ?_
    refine run_ret ?_
    refine at_then_ret ?_
    replace HM := (HM.front 0 rfl rfl).drop
    replace HM := (HM.front 0 rfl rfl).drop
    have hR := Option.some.inj H
    subst hR
    exact at_ret1 rfl rfl ⟨_, rfl, rfl, HM⟩
  · replace H := cond_f hb6983 H
    refine run_skip ?_
    refine at_then ?_
    refine run_seq ?_
    refine run_seq ?_
    refine run_region rfl ?_
    refine ops_ex rfl (guard_none rfl) rfl rfl (ex_fieldAddr (off' := 1) rfl rfl Tryz.underlying37 rfl tsz2 rfl) ?_
    refine ops_ex rfl (guard_none rfl) rfl rfl (ex_load1 rfl rfl Tryz.underlying2 rfl ((HM.box_at 1 rfl) 1 _ rfl)) ?_
    refine ops_ex rfl (guard_none rfl) rfl rfl (ex_fieldAddr (off' := 1) rfl rfl Tryz.underlying37 rfl tsz2 rfl) ?_
    refine ops_ex rfl (guard_none rfl) rfl rfl (ex_load1 rfl rfl Tryz.underlying2 rfl ((HM.box_at 0 rfl) 1 _ rfl)) ?_
    refine ops_ex rfl (guard_none rfl) rfl rfl (ex_neq rfl rfl rfl) ?_
    refine ops_nil ?_
    refine at_then ?_
    refine run_cond (b := (x0.fMember != x1.fMember)) rfl (fun hb6985 => ?_) (fun hb6985 => ?_)
    · replace H := cond_t hb6985 H
      refine run_seq ?_
      refine run_region rfl ?_
      refine ops_ex rfl (guard_none rfl) rfl rfl (ex_assign rfl rfl) ?_
      refine ops_nil ?_
      refine at_then ?_
      refine run_ret ?_
      refine at_then_ret ?_
      replace HM := (HM.front 0 rfl rfl).drop
      replace HM := (HM.front 0 rfl rfl).drop
      have hR := Option.some.inj H
      subst hR
      exact at_ret1 rfl rfl ⟨_, rfl, rfl, HM⟩
    · replace H := cond_f hb6985 H
      refine run_skip ?_
      refine at_then ?_
      refine run_seq ?_
      refine run_seq ?_
      obtain ⟨t6989, h6990, H⟩ := bind_some H
      refine run_region rfl ?_
      refine ops_ex rfl (guard_none rfl) rfl rfl (ex_fieldAddr (off' := 2) rfl rfl Tryz.underlying37 rfl tsz34 rfl) ?_
      refine ops_ex rfl (guard_none rfl) rfl rfl (ex_load1 rfl rfl Tryz.underlying34 rfl ((HM.box_at 1 rfl) 2 _ rfl)) ?_
      refine ops_ex rfl (guard_none rfl) rfl rfl (ex_fieldAddr (off' := 2) rfl rfl Tryz.underlying37 rfl tsz34 rfl) ?_
      refine ops_ex rfl (guard_none rfl) rfl rfl (ex_load1 rfl rfl Tryz.underlying34 rfl ((HM.box_at 0 rfl) 2 _ rfl)) ?_
      refine ops_does rfl (guard_none rfl) rfl rfl (does_callk rfl callok41 rfl (laws_eqRefS.calls (x0 := x0.fIns) (x1 := x1.fIns) (HM.rd hp0_0) (HM.rd hp1_0) h6990)) ?_
      rintro _ w6991 ⟨rfl, hn⟩
      replace HM : Mem w [] w6991 [box b6977 37 [.int .i64 x1.fKind, .int .i64 x1.fMember, p1_0, p1_1], box b6974 37 [.int .i64 x0.fKind, .int .i64 x0.fMember, p0_0, p0_1]] := HM.call hn
      refine ops_ex rfl (guard_none rfl) rfl rfl (ex_not rfl rfl) ?_
      refine ops_nil ?_
      refine at_then ?_
      refine run_cond (b := !t6989) rfl (fun hb6992 => ?_) (fun hb6992 => ?_)
      · replace H := cond_t hb6992 H
        refine run_seq ?_
        refine run_region rfl ?_
        refine ops_ex rfl (guard_none rfl) rfl rfl (ex_assign rfl rfl) ?_
        refine ops_nil ?_
        refine at_then ?_
        refine run_ret ?_
        refine at_then_ret ?_
        replace HM := (HM.front 0 rfl rfl).drop
        replace HM := (HM.front 0 rfl rfl).drop
        have hR := Option.some.inj H
        subst hR
        exact at_ret1 rfl rfl ⟨_, rfl, rfl, HM⟩
      · replace H := cond_f hb6992 H
        refine run_skip ?_
        refine at_then ?_
        refine run_seq ?_
        refine run_seq ?_
        obtain ⟨t6993, h6994, H⟩ := bind_some H
        refine run_region rfl ?_
        refine ops_ex rfl (guard_none rfl) rfl rfl (ex_fieldAddr (off' := 3) rfl rfl Tryz.underlying37 rfl tsz35 rfl) ?_
        refine ops_ex rfl (guard_none rfl) rfl rfl (ex_load1 rfl rfl Tryz.underlying35 rfl ((HM.box_at 1 rfl) 3 _ rfl)) ?_
        refine ops_ex rfl (guard_none rfl) rfl rfl (ex_fieldAddr (off' := 3) rfl rfl Tryz.underlying37 rfl tsz35 rfl) ?_
        refine ops_ex rfl (guard_none rfl) rfl rfl (ex_load1 rfl rfl Tryz.underlying35 rfl ((HM.box_at 0 rfl) 3 _ rfl)) ?_
        refine ops_does rfl (guard_none rfl) rfl rfl (does_callk rfl callok42 rfl (laws_eqOutS.calls (x0 := x0.fOuts) (x1 := x1.fOuts) (HM.rd hp0_1) (HM.rd hp1_1) h6994)) ?_
        rintro _ w6995 ⟨rfl, hn⟩
        replace HM : Mem w [] w6995 [box b6977 37 [.int .i64 x1.fKind, .int .i64 x1.fMember, p1_0, p1_1], box b6974 37 [.int .i64 x0.fKind, .int .i64 x0.fMember, p0_0, p0_1]] := HM.call hn
        refine ops_ex rfl (guard_none rfl) rfl rfl (ex_not rfl rfl) ?_
        refine ops_nil ?_
        refine at_then ?_
        refine run_cond (b := !t6993) rfl (fun hb6996 => ?_) (fun hb6996 => ?_)
        · replace H := cond_t hb6996 H
          refine run_seq ?_
          refine run_region rfl ?_
          refine ops_ex rfl (guard_none rfl) rfl rfl (ex_assign rfl rfl) ?_
          refine ops_nil ?_
          refine at_then ?_
          refine run_ret ?_
          refine at_then_ret ?_
          replace HM := (HM.front 0 rfl rfl).drop
          replace HM := (HM.front 0 rfl rfl).drop
          have hR := Option.some.inj H
          subst hR
          exact at_ret1 rfl rfl ⟨_, rfl, rfl, HM⟩
        · replace H := cond_f hb6996 H
          refine run_skip ?_
          refine at_then ?_
          refine run_seq ?_
          refine run_region rfl ?_
          refine ops_ex rfl (guard_none rfl) rfl rfl (ex_assign rfl rfl) ?_
          refine ops_nil ?_
          refine at_then ?_
          refine run_ret ?_
          replace HM := (HM.front 0 rfl rfl).drop
          replace HM := (HM.front 0 rfl rfl).drop
          have hR := Option.some.inj H
          subst hR
          exact at_ret1 rfl rfl ⟨_, rfl, rfl, HM⟩

def laws_markInt64S.l0  : Nat → (List Int) → Int → Int → Option ((List Int) × Int)
  | 0, _, _, _ => none
  | k + 1, a7060, a7062, a7063 => (bif (decide (a7063 < (a7060.length : Int))) then (chk (idxOk a7063 a7060.length) (laws_markInt64S.l0 k (a7060.set (a7063).toNat a7062) (wrap64 (a7062 + 1)) (wrap64 (a7063 + 1)))) else some (a7060, a7062))
theorem laws_markInt64S.l0_z  (a7060 : List Int) (a7062 : Int) (a7063 : Int) : laws_markInt64S.l0 0 a7060 a7062 a7063 = none := rfl
theorem laws_markInt64S.l0_s  (k : Nat) (a7060 : List Int) (a7062 : Int) (a7063 : Int) : laws_markInt64S.l0 (k + 1) a7060 a7062 a7063 = (bif (decide (a7063 < (a7060.length : Int))) then (chk (idxOk a7063 a7060.length) (laws_markInt64S.l0 k (a7060.set (a7063).toNat a7062) (wrap64 (a7062 + 1)) (wrap64 (a7063 + 1)))) else some (a7060, a7062)) := rfl
def laws_markInt64S.f (k : Nat) (x0 : List Int) (x1 : Int) : Option (Int × (List Int)) := ((laws_markInt64S.l0 k x0 x1 0).bind (cur2 (fun a7053 a7055 => some (a7055, a7053))))
theorem laws_markInt64S.calls {k : Nat} {x0 : List Int} {x1 : Int} {p0 : Value} {w wo : World} {X : List Nat} (hwo : Olds wo w X) (hX : Hold w [own kInt 2 p0 x0] X) (hXn : X.Nodup) (hXl : ∀ b ∈ X, b < w.heap.size)  {r : Int × (List Int)} (H : laws_markInt64S.f k x0 x1 = some r) :
    Calls Tryz.prog 43 ([p0, .int .i64 x1] : List Value).toArray w (fun e w_ => ∃ v, e = .returned v ∧ v = (.int .i64 r.1) ∧ Mem w X w_ [own kInt 2 p0 r.2]) := by
  have HM := Mem.startX hX hXn hXl
  refine calls_run (N := 19) Tryz.func43 rfl rfl rfl rfl ?_
  unfold laws_markInt64S.f at H
  refine run_seq ?_
  refine run_region rfl ?_
  refine ops_ex rfl (guard_none rfl) rfl rfl (ex_assign rfl rfl) ?_
  refine ops_nil ?_
  refine at_then ?_
  obtain ⟨o7056, ho7057, H⟩ := bind_some H
  refine run_mid (fun ρ_ w_ => ∃ a7053 : List Int, ∃ a7055 : Int, (a7053, a7055) = o7056 ∧ ρ_ = [(1, .int .i64 a7055)] ∧ Mem w X w_ [own kInt 2 p0 a7053]) ?_ ?_
  · clear H
    refine run_seq ?_
    refine run_region rfl ?_
    refine ops_ex rfl (guard_none rfl) rfl rfl (ex_assign rfl rfl) ?_
    refine ops_nil ?_
    refine at_then ?_
    refine run_block ?_
    refine run_loop (fun k_ ρ_ w_ => ∃ a7060 : List Int, ∃ a7062 : Int, ∃ a7063 : Int, laws_markInt64S.l0 k_ a7060 a7062 a7063 = some o7056 ∧ ρ_ = [(0, p0), (1, .int .i64 a7062), (5, .int .i64 a7063)] ∧ Mem w X w_ [own kInt 2 p0 a7060]) k (ρ1 := [(0, p0), (1, .int .i64 x1), (5, .int .i64 0)]) ⟨_, _, _, ho7057, rfl, HM⟩ (Sub.cons rfl (Sub.cons rfl (Sub.cons rfl Sub.nil))) ?_
    clear HM ho7057
    rintro k7066 _ w7067 ⟨a7060, a7062, a7063, ho7057, rfl, HM⟩
    obtain _ | k7066 := k7066
    · exact nomatch ((laws_markInt64S.l0_z a7060 a7062 a7063).symm.trans ho7057)
    replace ho7057 := (laws_markInt64S.l0_s k7066 a7060 a7062 a7063).symm.trans ho7057
    refine run_seq ?_
    refine run_seq ?_
    refine run_region rfl ?_
    refine ops_ex rfl (guard_none rfl) rfl rfl (ex_move rfl rfl) ?_
    refine ops_ex rfl (guard_none rfl) rfl rfl (ex_move rfl rfl) ?_
    refine ops_ex rfl (guard_none rfl) rfl rfl (ex_len (d := kInt) (xs := a7060) rfl rfl Tryz.underlying60 (HM.own_rd 0 rfl)) ?_
    refine ops_ex rfl (guard_none rfl) rfl rfl (ex_lss rfl rfl rfl) ?_
    refine ops_nil ?_
    refine at_then ?_
    refine run_cond (b := (decide (a7063 < (a7060.length : Int)))) rfl (fun hb7068 => ?_) (fun hb7068 => ?_)
    · replace ho7057 := cond_t hb7068 ho7057
      refine run_skip ?_
      refine at_then ?_
      refine run_seq ?_
      refine run_block ?_
      refine run_seq ?_
      obtain ⟨e7069, ho7057⟩ := chk_some ho7057
      refine run_region rfl ?_
      refine ops_ex rfl (guard_none rfl) rfl rfl (ex_move rfl rfl) ?_
      refine ops_ex rfl (guard_none rfl) rfl rfl (ex_move rfl rfl) ?_
      refine ops_ex rfl (guard_none rfl) rfl rfl (ex_move rfl rfl) ?_
      refine ops_ex rfl (guard_none rfl) rfl rfl (ex_indexAddr (d := kInt) rfl rfl rfl Tryz.underlying60 tsz2 (HM.own_rd 0 rfl) (idx_lo e7069) (idx_hi e7069)) ?_
      refine ops_doesS rfl (guard_none rfl) rfl (does_setElem (vs := [(.int .i64 a7062)]) (y := a7062) kInt rfl rfl rfl rfl rfl tsz2 rfl rfl (idx_nat e7069) (fun _ _ h => ⟨rfl, h⟩) (HM.emp.front 1 rfl rfl)) ?_
      rintro w7070 HM
      refine ops_nil ?_
      refine at_then ?_
      refine run_region rfl ?_
      refine ops_ex rfl (guard_none rfl) rfl rfl (ex_move rfl rfl) ?_
      refine ops_ex rfl (guard_none rfl) rfl rfl (ex_add rfl rfl rfl) ?_
      refine ops_ex rfl (guard_none rfl) rfl rfl (ex_assign rfl rfl) ?_
      refine ops_nil ?_
      refine at_block ?_
      refine at_then ?_
      refine run_region rfl ?_
      refine ops_ex rfl (guard_none rfl) rfl rfl (ex_move rfl rfl) ?_
      refine ops_ex rfl (guard_none rfl) rfl rfl (ex_add rfl rfl rfl) ?_
      refine ops_ex rfl (guard_none rfl) rfl rfl (ex_assign rfl rfl) ?_
      refine ops_nil ?_
      exact at_again k7066 (ρ1 := [(0, p0), (1, .int .i64 (wrap64 (a7062 + 1))), (5, .int .i64 (wrap64 (a7063 + 1)))]) (Nat.lt_succ_self _) ⟨_, _, _, ho7057, rfl, HM⟩ (Sub.cons rfl (Sub.cons rfl (Sub.cons rfl Sub.nil)))
    · replace ho7057 := cond_f hb7068 ho7057
      refine run_exit ?_
      refine at_then_exit ?_
      refine at_then_exit ?_
      refine at_block_exit ?_
      exact at_mid (ρ' := [(1, .int .i64 a7062)]) ⟨_, _, (Option.some.inj ho7057), rfl, HM⟩ (Sub.cons rfl Sub.nil)
  · rintro _ w7071 ⟨a7053, a7055, rfl, rfl, HM⟩
    replace H := cur2_mk H
    refine run_seq ?_
    refine run_region rfl ?_
    refine ops_ex rfl (guard_none rfl) rfl rfl (ex_move rfl rfl) ?_
    refine ops_ex rfl (guard_none rfl) rfl rfl (ex_assign rfl rfl) ?_
    refine ops_nil ?_
    refine at_then ?_
    refine run_ret ?_
    have hR := Option.some.inj H
    subst hR
    exact at_ret1 rfl rfl ⟨_, rfl, rfl, HM⟩

def laws_markCoinS.l0  : Nat → (List Coin) → Int → Int → Option ((List Coin) × Int)
  | 0, _, _, _ => none
  | k + 1, a7235, a7237, a7238 => (bif (decide (a7238 < (a7235.length : Int))) then (chk (idxOk a7238 a7235.length) ((laws_markInt64S.f k ((gt a7235 a7238).fOut.fRule.fKeys) (wrap64 ((wrap64 ((wrap64 (a7237 + 1)) + 1)) + 1))).bind fun t7275 => (chk ((3 : Int) != 0) (laws_markCoinS.l0 k (a7235.set (a7238).toNat (⟨(⟨a7237, wrap64 (a7237 + 1)⟩ : Ref), (⟨wrap64 ((wrap64 (a7237 + 1)) + 1), (⟨t7275.2, t7275.1, wrap64 (t7275.1 + 1)⟩ : Rule)⟩ : Out), wrap64 ((wrap64 (t7275.1 + 1)) + 1), ((Int.tmod (wrap64 ((wrap64 ((wrap64 (t7275.1 + 1)) + 1)) + 1)) (3 : Int)) == 0)⟩ : Coin)) (wrap64 ((wrap64 ((wrap64 ((wrap64 (t7275.1 + 1)) + 1)) + 1)) + 1)) (wrap64 (a7238 + 1)))))) else some (a7235, a7237))
theorem laws_markCoinS.l0_z  (a7235 : List Coin) (a7237 : Int) (a7238 : Int) : laws_markCoinS.l0 0 a7235 a7237 a7238 = none := rfl
theorem laws_markCoinS.l0_s  (k : Nat) (a7235 : List Coin) (a7237 : Int) (a7238 : Int) : laws_markCoinS.l0 (k + 1) a7235 a7237 a7238 = (bif (decide (a7238 < (a7235.length : Int))) then (chk (idxOk a7238 a7235.length) ((laws_markInt64S.f k ((gt a7235 a7238).fOut.fRule.fKeys) (wrap64 ((wrap64 ((wrap64 (a7237 + 1)) + 1)) + 1))).bind fun t7275 => (chk ((3 : Int) != 0) (laws_markCoinS.l0 k (a7235.set (a7238).toNat (⟨(⟨a7237, wrap64 (a7237 + 1)⟩ : Ref), (⟨wrap64 ((wrap64 (a7237 + 1)) + 1), (⟨t7275.2, t7275.1, wrap64 (t7275.1 + 1)⟩ : Rule)⟩ : Out), wrap64 ((wrap64 (t7275.1 + 1)) + 1), ((Int.tmod (wrap64 ((wrap64 ((wrap64 (t7275.1 + 1)) + 1)) + 1)) (3 : Int)) == 0)⟩ : Coin)) (wrap64 ((wrap64 ((wrap64 ((wrap64 (t7275.1 + 1)) + 1)) + 1)) + 1)) (wrap64 (a7238 + 1)))))) else some (a7235, a7237)) := rfl
def laws_markCoinS.f (k : Nat) (x0 : List Coin) (x1 : Int) : Option (Int × (List Coin)) := ((laws_markCoinS.l0 k x0 x1 0).bind (cur2 (fun a7208 a7210 => some (a7210, a7208))))
theorem laws_markCoinS.calls {k : Nat} {x0 : List Coin} {x1 : Int} {p0 : Value} {w wo : World} {X : List Nat} (hwo : Olds wo w X) (hX : Hold w [own kCoin 77 p0 x0] X) (hXn : X.Nodup) (hXl : ∀ b ∈ X, b < w.heap.size)  {r : Int × (List Coin)} (H : laws_markCoinS.f k x0 x1 = some r) :
    Calls Tryz.prog 16 ([p0, .int .i64 x1] : List Value).toArray w (fun e w_ => ∃ v, e = .returned v ∧ v = (.int .i64 r.1) ∧ Mem w X w_ [own kCoin 77 p0 r.2]) := by
  have HM := Mem.startX hX hXn hXl
  refine calls_run (N := 80) Tryz.func16 rfl rfl rfl rfl ?_
  unfold laws_markCoinS.f at H
  refine run_seq ?_
  refine run_region rfl ?_
  refine ops_ex rfl (guard_none rfl) rfl rfl (ex_assign rfl rfl) ?_
  refine ops_nil ?_
  refine at_then ?_
  obtain ⟨o7211, ho7212, H⟩ := bind_some H
  refine run_mid (fun ρ_ w_ => ∃ a7208 : List Coin, ∃ a7210 : Int, (a7208, a7210) = o7211 ∧ ρ_ = [(1, .int .i64 a7210)] ∧ Mem w X w_ [own kCoin 77 p0 a7208]) ?_ ?_
  · clear H
    refine run_seq ?_
    refine run_region rfl ?_
    refine ops_ex rfl (guard_none rfl) rfl rfl (ex_assign rfl rfl) ?_
    refine ops_nil ?_
    refine at_then ?_
    refine run_block ?_
    refine run_loop (fun k_ ρ_ w_ => ∃ a7235 : List Coin, ∃ a7237 : Int, ∃ a7238 : Int, laws_markCoinS.l0 k_ a7235 a7237 a7238 = some o7211 ∧ ρ_ = [(0, p0), (1, .int .i64 a7237), (5, .int .i64 a7238)] ∧ Mem w X w_ [own kCoin 77 p0 a7235]) k (ρ1 := [(0, p0), (1, .int .i64 x1), (5, .int .i64 0)]) ⟨_, _, _, ho7212, rfl, HM⟩ (Sub.cons rfl (Sub.cons rfl (Sub.cons rfl Sub.nil))) ?_
    clear HM ho7212
    rintro k7261 _ w7262 ⟨a7235, a7237, a7238, ho7212, rfl, HM⟩
    obtain _ | k7261 := k7261
    · exact nomatch ((laws_markCoinS.l0_z a7235 a7237 a7238).symm.trans ho7212)
    replace ho7212 := (laws_markCoinS.l0_s k7261 a7235 a7237 a7238).symm.trans ho7212
    refine run_seq ?_
    refine run_seq ?_
    refine run_region rfl ?_
    refine ops_ex rfl (guard_none rfl) rfl rfl (ex_move rfl rfl) ?_
    refine ops_ex rfl (guard_none rfl) rfl rfl (ex_move rfl rfl) ?_
    refine ops_ex rfl (guard_none rfl) rfl rfl (ex_len (d := kCoin) (xs := a7235) rfl rfl Tryz.underlying29 (HM.own_rd 0 rfl)) ?_
    refine ops_ex rfl (guard_none rfl) rfl rfl (ex_lss rfl rfl rfl) ?_
    refine ops_nil ?_
    refine at_then ?_
    refine run_cond (b := (decide (a7238 < (a7235.length : Int)))) rfl (fun hb7263 => ?_) (fun hb7263 => ?_)
    · replace ho7212 := cond_t hb7263 ho7212
      refine run_skip ?_
      refine at_then ?_
      refine run_seq ?_
      refine run_block ?_
      refine run_seq ?_
      obtain ⟨e7264, ho7212⟩ := chk_some ho7212
      refine run_region rfl ?_
      refine ops_ex rfl (guard_none rfl) rfl rfl (ex_move rfl rfl) ?_
      refine ops_ex rfl (guard_none rfl) rfl rfl (ex_move rfl rfl) ?_
      refine ops_ex rfl (guard_none rfl) rfl rfl (ex_move rfl rfl) ?_
      refine ops_ex rfl (guard_none rfl) rfl rfl (ex_indexAddr (d := kCoin) rfl rfl rfl Tryz.underlying29 tsz77 (HM.own_rd 0 rfl) (idx_lo e7264) (idx_hi e7264)) ?_
      refine ops_ex rfl (guard_none rfl) rfl rfl (ex_fieldAddr (off' := so p0 + (a7238).toNat * 8) rfl rfl Tryz.underlying77 rfl tsz56 rfl) ?_
      refine ops_ex rfl (guard_none rfl) rfl rfl (ex_fieldAddr (off' := so p0 + (a7238).toNat * 8) rfl rfl Tryz.underlying56 rfl tsz2 rfl) ?_
      refine ops_doesS rfl (guard_none rfl) rfl (does_setField (fo := 0) (vs := [(.int .i64 a7237)]) (y := (⟨(⟨a7237, (gt a7235 a7238).fRef.fAt⟩ : Ref), (gt a7235 a7238).fOut, (gt a7235 a7238).fHeight, (gt a7235 a7238).fMined⟩ : Coin)) kCoin rfl rfl rfl rfl rfl tsz2 (Ones.int Ones.nil) rfl rfl (idx_nat e7264) (fun _ _ _ h => by rw [← gt_eq (idx_nat e7264)] at h; obtain ⟨_, rfl, h2⟩ := h; exact ⟨_, rfl, h2⟩) HM) ?_
      rintro w7265 HM
      refine ops_nil ?_
      refine at_then ?_
      refine run_seq ?_
      refine run_region rfl ?_
      refine ops_ex rfl (guard_none rfl) rfl rfl (ex_move rfl rfl) ?_
      refine ops_ex rfl (guard_none rfl) rfl rfl (ex_add rfl rfl rfl) ?_
      refine ops_ex rfl (guard_none rfl) rfl rfl (ex_assign rfl rfl) ?_
      refine ops_nil ?_
      refine at_then ?_
      refine run_seq ?_
      refine run_region rfl ?_
      refine ops_ex rfl (guard_none rfl) rfl rfl (ex_move rfl rfl) ?_
      refine ops_ex rfl (guard_none rfl) rfl rfl (ex_move rfl rfl) ?_
      refine ops_ex rfl (guard_none rfl) rfl rfl (ex_move rfl rfl) ?_
      have e7266 : idxOk a7238 (a7235.set (a7238).toNat (⟨(⟨a7237, (gt a7235 a7238).fRef.fAt⟩ : Ref), (gt a7235 a7238).fOut, (gt a7235 a7238).fHeight, (gt a7235 a7238).fMined⟩ : Coin)).length = true := len_set e7264
      refine ops_ex rfl (guard_none rfl) rfl rfl (ex_indexAddr (d := kCoin) rfl rfl rfl Tryz.underlying29 tsz77 (HM.own_rd 0 rfl) (idx_lo e7266) (idx_hi e7266)) ?_
      refine ops_ex rfl (guard_none rfl) rfl rfl (ex_fieldAddr (off' := so p0 + (a7238).toNat * 8) rfl rfl Tryz.underlying77 rfl tsz56 rfl) ?_
      refine ops_ex rfl (guard_none rfl) rfl rfl (ex_fieldAddr (off' := so p0 + (a7238).toNat * 8 + 1) rfl rfl Tryz.underlying56 rfl tsz2 rfl) ?_
      refine ops_doesS rfl (guard_none rfl) rfl (does_setField (fo := 1) (vs := [(.int .i64 (wrap64 (a7237 + 1)))]) (y := (⟨(⟨a7237, wrap64 (a7237 + 1)⟩ : Ref), (gt a7235 a7238).fOut, (gt a7235 a7238).fHeight, (gt a7235 a7238).fMined⟩ : Coin)) kCoin rfl rfl rfl rfl rfl tsz2 (Ones.int Ones.nil) rfl rfl (idx_nat e7266) (fun _ _ _ h => by rw [List.getElem_set_self] at h; obtain ⟨_, rfl, h2⟩ := h; exact ⟨_, rfl, h2⟩) HM) ?_
      rintro w7267 HM
      replace HM := HM.set2
      refine ops_nil ?_
      refine at_then ?_
      refine run_seq ?_
      refine run_region rfl ?_
      refine ops_ex rfl (guard_none rfl) rfl rfl (ex_move rfl rfl) ?_
      refine ops_ex rfl (guard_none rfl) rfl rfl (ex_add rfl rfl rfl) ?_
      refine ops_ex rfl (guard_none rfl) rfl rfl (ex_assign rfl rfl) ?_
      refine ops_nil ?_
      refine at_then ?_
      refine run_seq ?_
      refine run_region rfl ?_
      refine ops_ex rfl (guard_none rfl) rfl rfl (ex_move rfl rfl) ?_
      refine ops_ex rfl (guard_none rfl) rfl rfl (ex_move rfl rfl) ?_
      refine ops_ex rfl (guard_none rfl) rfl rfl (ex_move rfl rfl) ?_
      have e7268 : idxOk a7238 (a7235.set (a7238).toNat (⟨(⟨a7237, wrap64 (a7237 + 1)⟩ : Ref), (gt a7235 a7238).fOut, (gt a7235 a7238).fHeight, (gt a7235 a7238).fMined⟩ : Coin)).length = true := len_set e7264
      refine ops_ex rfl (guard_none rfl) rfl rfl (ex_indexAddr (d := kCoin) rfl rfl rfl Tryz.underlying29 tsz77 (HM.own_rd 0 rfl) (idx_lo e7268) (idx_hi e7268)) ?_
      refine ops_ex rfl (guard_none rfl) rfl rfl (ex_fieldAddr (off' := so p0 + (a7238).toNat * 8 + 2) rfl rfl Tryz.underlying77 rfl tsz75 rfl) ?_
      refine ops_ex rfl (guard_none rfl) rfl rfl (ex_fieldAddr (off' := so p0 + (a7238).toNat * 8 + 2) rfl rfl Tryz.underlying75 rfl tsz2 rfl) ?_
      refine ops_doesS rfl (guard_none rfl) rfl (does_setField (fo := 2) (vs := [(.int .i64 (wrap64 ((wrap64 (a7237 + 1)) + 1)))]) (y := (⟨(⟨a7237, wrap64 (a7237 + 1)⟩ : Ref), (⟨wrap64 ((wrap64 (a7237 + 1)) + 1), (gt a7235 a7238).fOut.fRule⟩ : Out), (gt a7235 a7238).fHeight, (gt a7235 a7238).fMined⟩ : Coin)) kCoin rfl rfl rfl rfl rfl tsz2 (Ones.int Ones.nil) rfl rfl (idx_nat e7268) (fun _ _ _ h => by rw [List.getElem_set_self] at h; obtain ⟨_, rfl, h2⟩ := h; exact ⟨_, rfl, h2⟩) HM) ?_
      rintro w7269 HM
      replace HM := HM.set2
      refine ops_nil ?_
      refine at_then ?_
      refine run_seq ?_
      refine run_region rfl ?_
      refine ops_ex rfl (guard_none rfl) rfl rfl (ex_move rfl rfl) ?_
      refine ops_ex rfl (guard_none rfl) rfl rfl (ex_add rfl rfl rfl) ?_
      refine ops_ex rfl (guard_none rfl) rfl rfl (ex_assign rfl rfl) ?_
      refine ops_nil ?_
      refine at_then ?_
      refine run_seq ?_
      obtain ⟨t7275, h7276, ho7212⟩ := bind_some ho7212
      refine run_region rfl ?_
      refine ops_ex rfl (guard_none rfl) rfl rfl (ex_move rfl rfl) ?_
      refine ops_ex rfl (guard_none rfl) rfl rfl (ex_move rfl rfl) ?_
      have e7270 : idxOk a7238 (a7235.set (a7238).toNat (⟨(⟨a7237, wrap64 (a7237 + 1)⟩ : Ref), (⟨wrap64 ((wrap64 (a7237 + 1)) + 1), (gt a7235 a7238).fOut.fRule⟩ : Out), (gt a7235 a7238).fHeight, (gt a7235 a7238).fMined⟩ : Coin)).length = true := len_set e7264
      refine ops_ex rfl (guard_none rfl) rfl rfl (ex_indexAddr (d := kCoin) rfl rfl rfl Tryz.underlying29 tsz77 (HM.own_rd 0 rfl) (idx_lo e7270) (idx_hi e7270)) ?_
      refine ops_ex rfl (guard_none rfl) rfl rfl (ex_fieldAddr (off' := so p0 + (a7238).toNat * 8 + 2) rfl rfl Tryz.underlying77 rfl tsz75 rfl) ?_
      refine ops_ex rfl (guard_none rfl) rfl rfl (ex_fieldAddr (off' := so p0 + (a7238).toNat * 8 + 3) rfl rfl Tryz.underlying75 rfl tsz73 rfl) ?_
      refine ops_ex rfl (guard_none rfl) rfl rfl (ex_fieldAddr (off' := so p0 + (a7238).toNat * 8 + 3) rfl rfl Tryz.underlying73 rfl tsz60 rfl) ?_
      obtain ⟨u7271, hc7272, HM⟩ := HM.open1 e7270 (gt_set2 e7264)
      refine ops_ex rfl (guard_none rfl) rfl rfl (ex_load1 rfl rfl Tryz.underlying60 rfl (hc7272 3 _ rfl)) ?_
      refine ops_ex rfl (guard_none rfl) rfl rfl (ex_move rfl rfl) ?_
      obtain ⟨F7277, hF7278, hFn7279, hFl7280, HMh7281, hcl7282⟩ := HM.hide (Ms := [own kInt 2 u7271 ((gt a7235 a7238).fOut.fRule.fKeys)])
      refine ops_does rfl (guard_none rfl) rfl rfl (does_callk rfl callok43 rfl (laws_markInt64S.calls (x0 := (gt a7235 a7238).fOut.fRule.fKeys) (x1 := wrap64 ((wrap64 ((wrap64 (a7237 + 1)) + 1)) + 1)) (hide_olds _ _) hF7278 hFn7279 hFl7280 h7276)) ?_
      rintro _ w7283 ⟨rfl, hn⟩
      replace HM : Mem w X w7283 [own kInt 2 u7271 t7275.2, hole kCoin (fun u_ => [(.int .i64 a7237), (.int .i64 (wrap64 (a7237 + 1))), (.int .i64 (wrap64 ((wrap64 (a7237 + 1)) + 1))), u_, (.int .i64 ((gt a7235 a7238).fOut.fRule.fNeed)), (.int .i64 ((gt a7235 a7238).fOut.fRule.fAfter)), (.int .i64 ((gt a7235 a7238).fHeight)), (.bool ((gt a7235 a7238).fMined))]) 77 p0 (a7235.set (a7238).toNat (⟨(⟨a7237, wrap64 (a7237 + 1)⟩ : Ref), (⟨wrap64 ((wrap64 (a7237 + 1)) + 1), (gt a7235 a7238).fOut.fRule⟩ : Out), (gt a7235 a7238).fHeight, (gt a7235 a7238).fMined⟩ : Coin)) (a7238).toNat u7271] := hcl7282 _ _ hn
      replace HM := HM.front 1 rfl rfl
      replace HM := HM.front 1 rfl rfl
      replace HM := Mem.close1 (⟨(⟨a7237, wrap64 (a7237 + 1)⟩ : Ref), (⟨wrap64 ((wrap64 (a7237 + 1)) + 1), (⟨t7275.2, (gt a7235 a7238).fOut.fRule.fNeed, (gt a7235 a7238).fOut.fRule.fAfter⟩ : Rule)⟩ : Out), (gt a7235 a7238).fHeight, (gt a7235 a7238).fMined⟩ : Coin) HM rfl rfl
      replace HM := HM.set2
      refine ops_ex rfl (guard_none rfl) rfl rfl (ex_assign rfl rfl) ?_
      refine ops_nil ?_
      refine at_then ?_
      refine run_seq ?_
      refine run_region rfl ?_
      refine ops_ex rfl (guard_none rfl) rfl rfl (ex_move rfl rfl) ?_
      refine ops_ex rfl (guard_none rfl) rfl rfl (ex_move rfl rfl) ?_
      refine ops_ex rfl (guard_none rfl) rfl rfl (ex_move rfl rfl) ?_
      have e7284 : idxOk a7238 (a7235.set (a7238).toNat (⟨(⟨a7237, wrap64 (a7237 + 1)⟩ : Ref), (⟨wrap64 ((wrap64 (a7237 + 1)) + 1), (⟨t7275.2, (gt a7235 a7238).fOut.fRule.fNeed, (gt a7235 a7238).fOut.fRule.fAfter⟩ : Rule)⟩ : Out), (gt a7235 a7238).fHeight, (gt a7235 a7238).fMined⟩ : Coin)).length = true := len_set e7264
      refine ops_ex rfl (guard_none rfl) rfl rfl (ex_indexAddr (d := kCoin) rfl rfl rfl Tryz.underlying29 tsz77 (HM.own_rd 0 rfl) (idx_lo e7284) (idx_hi e7284)) ?_
      refine ops_ex rfl (guard_none rfl) rfl rfl (ex_fieldAddr (off' := so p0 + (a7238).toNat * 8 + 2) rfl rfl Tryz.underlying77 rfl tsz75 rfl) ?_
      refine ops_ex rfl (guard_none rfl) rfl rfl (ex_fieldAddr (off' := so p0 + (a7238).toNat * 8 + 3) rfl rfl Tryz.underlying75 rfl tsz73 rfl) ?_
      refine ops_ex rfl (guard_none rfl) rfl rfl (ex_fieldAddr (off' := so p0 + (a7238).toNat * 8 + 4) rfl rfl Tryz.underlying73 rfl tsz2 rfl) ?_
      refine ops_doesS rfl (guard_none rfl) rfl (does_setField (fo := 4) (vs := [(.int .i64 t7275.1)]) (y := (⟨(⟨a7237, wrap64 (a7237 + 1)⟩ : Ref), (⟨wrap64 ((wrap64 (a7237 + 1)) + 1), (⟨t7275.2, t7275.1, (gt a7235 a7238).fOut.fRule.fAfter⟩ : Rule)⟩ : Out), (gt a7235 a7238).fHeight, (gt a7235 a7238).fMined⟩ : Coin)) kCoin rfl rfl rfl rfl rfl tsz2 (Ones.int Ones.nil) rfl rfl (idx_nat e7284) (fun _ _ _ h => by rw [List.getElem_set_self] at h; obtain ⟨_, rfl, h2⟩ := h; exact ⟨_, rfl, h2⟩) HM) ?_
      rintro w7285 HM
      replace HM := HM.set2
      refine ops_nil ?_
      refine at_then ?_
      refine run_seq ?_
      refine run_region rfl ?_
      refine ops_ex rfl (guard_none rfl) rfl rfl (ex_move rfl rfl) ?_
      refine ops_ex rfl (guard_none rfl) rfl rfl (ex_add rfl rfl rfl) ?_
      refine ops_ex rfl (guard_none rfl) rfl rfl (ex_assign rfl rfl) ?_
      refine ops_nil ?_
      refine at_then ?_
      refine run_seq ?_
      refine run_region rfl ?_
      refine ops_ex rfl (guard_none rfl) rfl rfl (ex_move rfl rfl) ?_
      refine ops_ex rfl (guard_none rfl) rfl rfl (ex_move rfl rfl) ?_
      refine ops_ex rfl (guard_none rfl) rfl rfl (ex_move rfl rfl) ?_
      have e7286 : idxOk a7238 (a7235.set (a7238).toNat (⟨(⟨a7237, wrap64 (a7237 + 1)⟩ : Ref), (⟨wrap64 ((wrap64 (a7237 + 1)) + 1), (⟨t7275.2, t7275.1, (gt a7235 a7238).fOut.fRule.fAfter⟩ : Rule)⟩ : Out), (gt a7235 a7238).fHeight, (gt a7235 a7238).fMined⟩ : Coin)).length = true := len_set e7264
      refine ops_ex rfl (guard_none rfl) rfl rfl (ex_indexAddr (d := kCoin) rfl rfl rfl Tryz.underlying29 tsz77 (HM.own_rd 0 rfl) (idx_lo e7286) (idx_hi e7286)) ?_
      refine ops_ex rfl (guard_none rfl) rfl rfl (ex_fieldAddr (off' := so p0 + (a7238).toNat * 8 + 2) rfl rfl Tryz.underlying77 rfl tsz75 rfl) ?_
      refine ops_ex rfl (guard_none rfl) rfl rfl (ex_fieldAddr (off' := so p0 + (a7238).toNat * 8 + 3) rfl rfl Tryz.underlying75 rfl tsz73 rfl) ?_
      refine ops_ex rfl (guard_none rfl) rfl rfl (ex_fieldAddr (off' := so p0 + (a7238).toNat * 8 + 5) rfl rfl Tryz.underlying73 rfl tsz2 rfl) ?_
      refine ops_doesS rfl (guard_none rfl) rfl (does_setField (fo := 5) (vs := [(.int .i64 (wrap64 (t7275.1 + 1)))]) (y := (⟨(⟨a7237, wrap64 (a7237 + 1)⟩ : Ref), (⟨wrap64 ((wrap64 (a7237 + 1)) + 1), (⟨t7275.2, t7275.1, wrap64 (t7275.1 + 1)⟩ : Rule)⟩ : Out), (gt a7235 a7238).fHeight, (gt a7235 a7238).fMined⟩ : Coin)) kCoin rfl rfl rfl rfl rfl tsz2 (Ones.int Ones.nil) rfl rfl (idx_nat e7286) (fun _ _ _ h => by rw [List.getElem_set_self] at h; obtain ⟨_, rfl, h2⟩ := h; exact ⟨_, rfl, h2⟩) HM) ?_
      rintro w7287 HM
      replace HM := HM.set2
      refine ops_nil ?_
      refine at_then ?_
      refine run_seq ?_
      refine run_region rfl ?_
      refine ops_ex rfl (guard_none rfl) rfl rfl (ex_move rfl rfl) ?_
      refine ops_ex rfl (guard_none rfl) rfl rfl (ex_add rfl rfl rfl) ?_
      refine ops_ex rfl (guard_none rfl) rfl rfl (ex_assign rfl rfl) ?_
      refine ops_nil ?_
      refine at_then ?_
      refine run_seq ?_
      refine run_region rfl ?_
      refine ops_ex rfl (guard_none rfl) rfl rfl (ex_move rfl rfl) ?_
      refine ops_ex rfl (guard_none rfl) rfl rfl (ex_move rfl rfl) ?_
      refine ops_ex rfl (guard_none rfl) rfl rfl (ex_move rfl rfl) ?_
      have e7288 : idxOk a7238 (a7235.set (a7238).toNat (⟨(⟨a7237, wrap64 (a7237 + 1)⟩ : Ref), (⟨wrap64 ((wrap64 (a7237 + 1)) + 1), (⟨t7275.2, t7275.1, wrap64 (t7275.1 + 1)⟩ : Rule)⟩ : Out), (gt a7235 a7238).fHeight, (gt a7235 a7238).fMined⟩ : Coin)).length = true := len_set e7264
      refine ops_ex rfl (guard_none rfl) rfl rfl (ex_indexAddr (d := kCoin) rfl rfl rfl Tryz.underlying29 tsz77 (HM.own_rd 0 rfl) (idx_lo e7288) (idx_hi e7288)) ?_
      refine ops_ex rfl (guard_none rfl) rfl rfl (ex_fieldAddr (off' := so p0 + (a7238).toNat * 8 + 6) rfl rfl Tryz.underlying77 rfl tsz2 rfl) ?_
      refine ops_doesS rfl (guard_none rfl) rfl (does_setField (fo := 6) (vs := [(.int .i64 (wrap64 ((wrap64 (t7275.1 + 1)) + 1)))]) (y := (⟨(⟨a7237, wrap64 (a7237 + 1)⟩ : Ref), (⟨wrap64 ((wrap64 (a7237 + 1)) + 1), (⟨t7275.2, t7275.1, wrap64 (t7275.1 + 1)⟩ : Rule)⟩ : Out), wrap64 ((wrap64 (t7275.1 + 1)) + 1), (gt a7235 a7238).fMined⟩ : Coin)) kCoin rfl rfl rfl rfl rfl tsz2 (Ones.int Ones.nil) rfl rfl (idx_nat e7288) (fun _ _ _ h => by rw [List.getElem_set_self] at h; obtain ⟨_, rfl, h2⟩ := h; exact ⟨_, rfl, h2⟩) HM) ?_
      rintro w7289 HM
      replace HM := HM.set2
      refine ops_nil ?_
      refine at_then ?_
      refine run_seq ?_
      refine run_region rfl ?_
      refine ops_ex rfl (guard_none rfl) rfl rfl (ex_move rfl rfl) ?_
      refine ops_ex rfl (guard_none rfl) rfl rfl (ex_add rfl rfl rfl) ?_
      refine ops_ex rfl (guard_none rfl) rfl rfl (ex_assign rfl rfl) ?_
      refine ops_nil ?_
      refine at_then ?_
      refine run_seq ?_
      obtain ⟨e7290, ho7212⟩ := chk_some ho7212
      refine run_region rfl ?_
      refine ops_ex rfl (guard_none rfl) rfl rfl (ex_move rfl rfl) ?_
      refine ops_ex rfl (guard_none rfl) rfl rfl (ex_move rfl rfl) ?_
      refine ops_ex rfl (guard_none rfl) rfl rfl (ex_move rfl rfl) ?_
      refine ops_ex rfl (guard_none rfl) rfl rfl (ex_remk rfl rfl rfl e7290) ?_
      refine ops_ex rfl (guard_none rfl) rfl rfl (ex_eql rfl rfl rfl) ?_
      have e7291 : idxOk a7238 (a7235.set (a7238).toNat (⟨(⟨a7237, wrap64 (a7237 + 1)⟩ : Ref), (⟨wrap64 ((wrap64 (a7237 + 1)) + 1), (⟨t7275.2, t7275.1, wrap64 (t7275.1 + 1)⟩ : Rule)⟩ : Out), wrap64 ((wrap64 (t7275.1 + 1)) + 1), (gt a7235 a7238).fMined⟩ : Coin)).length = true := len_set e7264
      refine ops_ex rfl (guard_none rfl) rfl rfl (ex_indexAddr (d := kCoin) rfl rfl rfl Tryz.underlying29 tsz77 (HM.own_rd 0 rfl) (idx_lo e7291) (idx_hi e7291)) ?_
      refine ops_ex rfl (guard_none rfl) rfl rfl (ex_fieldAddr (off' := so p0 + (a7238).toNat * 8 + 7) rfl rfl Tryz.underlying77 rfl tsz4 rfl) ?_
      refine ops_doesS rfl (guard_none rfl) rfl (does_setField (fo := 7) (vs := [(.bool ((Int.tmod (wrap64 ((wrap64 ((wrap64 (t7275.1 + 1)) + 1)) + 1)) (3 : Int)) == 0))]) (y := (⟨(⟨a7237, wrap64 (a7237 + 1)⟩ : Ref), (⟨wrap64 ((wrap64 (a7237 + 1)) + 1), (⟨t7275.2, t7275.1, wrap64 (t7275.1 + 1)⟩ : Rule)⟩ : Out), wrap64 ((wrap64 (t7275.1 + 1)) + 1), ((Int.tmod (wrap64 ((wrap64 ((wrap64 (t7275.1 + 1)) + 1)) + 1)) (3 : Int)) == 0)⟩ : Coin)) kCoin rfl rfl rfl rfl rfl tsz4 (Ones.bool Ones.nil) rfl rfl (idx_nat e7291) (fun _ _ _ h => by rw [List.getElem_set_self] at h; obtain ⟨_, rfl, h2⟩ := h; exact ⟨_, rfl, h2⟩) HM) ?_
      rintro w7292 HM
      replace HM := HM.set2
      refine ops_nil ?_
      refine at_then ?_
      refine run_region rfl ?_
      refine ops_ex rfl (guard_none rfl) rfl rfl (ex_move rfl rfl) ?_
      refine ops_ex rfl (guard_none rfl) rfl rfl (ex_add rfl rfl rfl) ?_
      refine ops_ex rfl (guard_none rfl) rfl rfl (ex_assign rfl rfl) ?_
      refine ops_nil ?_
      refine at_block ?_
      refine at_then ?_
      refine run_region rfl ?_
      refine ops_ex rfl (guard_none rfl) rfl rfl (ex_move rfl rfl) ?_
      refine ops_ex rfl (guard_none rfl) rfl rfl (ex_add rfl rfl rfl) ?_
      refine ops_ex rfl (guard_none rfl) rfl rfl (ex_assign rfl rfl) ?_
      refine ops_nil ?_
      exact at_again k7261 (ρ1 := [(0, p0), (1, .int .i64 (wrap64 ((wrap64 ((wrap64 ((wrap64 (t7275.1 + 1)) + 1)) + 1)) + 1))), (5, .int .i64 (wrap64 (a7238 + 1)))]) (Nat.lt_succ_self _) ⟨_, _, _, ho7212, rfl, HM⟩ (Sub.cons rfl (Sub.cons rfl (Sub.cons rfl Sub.nil)))
    · replace ho7212 := cond_f hb7263 ho7212
      refine run_exit ?_
      refine at_then_exit ?_
      refine at_then_exit ?_
      refine at_block_exit ?_
      exact at_mid (ρ' := [(1, .int .i64 a7237)]) ⟨_, _, (Option.some.inj ho7212), rfl, HM⟩ (Sub.cons rfl Sub.nil)
  · rintro _ w7293 ⟨a7208, a7210, rfl, rfl, HM⟩
    replace H := cur2_mk H
    refine run_seq ?_
    refine run_region rfl ?_
    refine ops_ex rfl (guard_none rfl) rfl rfl (ex_move rfl rfl) ?_
    refine ops_ex rfl (guard_none rfl) rfl rfl (ex_assign rfl rfl) ?_
    refine ops_nil ?_
    refine at_then ?_
    refine run_ret ?_
    have hR := Option.some.inj H
    subst hR
    exact at_ret1 rfl rfl ⟨_, rfl, rfl, HM⟩

def laws_markRefS.l0  : Nat → (List Ref) → Int → Int → Option ((List Ref) × Int)
  | 0, _, _, _ => none
  | k + 1, a7348, a7350, a7351 => (bif (decide (a7351 < (a7348.length : Int))) then (chk (idxOk a7351 a7348.length) (laws_markRefS.l0 k (a7348.set (a7351).toNat (⟨a7350, wrap64 (a7350 + 1)⟩ : Ref)) (wrap64 ((wrap64 (a7350 + 1)) + 1)) (wrap64 (a7351 + 1)))) else some (a7348, a7350))
theorem laws_markRefS.l0_z  (a7348 : List Ref) (a7350 : Int) (a7351 : Int) : laws_markRefS.l0 0 a7348 a7350 a7351 = none := rfl
theorem laws_markRefS.l0_s  (k : Nat) (a7348 : List Ref) (a7350 : Int) (a7351 : Int) : laws_markRefS.l0 (k + 1) a7348 a7350 a7351 = (bif (decide (a7351 < (a7348.length : Int))) then (chk (idxOk a7351 a7348.length) (laws_markRefS.l0 k (a7348.set (a7351).toNat (⟨a7350, wrap64 (a7350 + 1)⟩ : Ref)) (wrap64 ((wrap64 (a7350 + 1)) + 1)) (wrap64 (a7351 + 1)))) else some (a7348, a7350)) := rfl
def laws_markRefS.f (k : Nat) (x0 : List Ref) (x1 : Int) : Option (Int × (List Ref)) := ((laws_markRefS.l0 k x0 x1 0).bind (cur2 (fun a7340 a7342 => some (a7342, a7340))))
theorem laws_markRefS.calls {k : Nat} {x0 : List Ref} {x1 : Int} {p0 : Value} {w wo : World} {X : List Nat} (hwo : Olds wo w X) (hX : Hold w [own kRef 56 p0 x0] X) (hXn : X.Nodup) (hXl : ∀ b ∈ X, b < w.heap.size)  {r : Int × (List Ref)} (H : laws_markRefS.f k x0 x1 = some r) :
    Calls Tryz.prog 44 ([p0, .int .i64 x1] : List Value).toArray w (fun e w_ => ∃ v, e = .returned v ∧ v = (.int .i64 r.1) ∧ Mem w X w_ [own kRef 56 p0 r.2]) := by
  have HM := Mem.startX hX hXn hXl
  refine calls_run (N := 27) Tryz.func44 rfl rfl rfl rfl ?_
  unfold laws_markRefS.f at H
  refine run_seq ?_
  refine run_region rfl ?_
  refine ops_ex rfl (guard_none rfl) rfl rfl (ex_assign rfl rfl) ?_
  refine ops_nil ?_
  refine at_then ?_
  obtain ⟨o7343, ho7344, H⟩ := bind_some H
  refine run_mid (fun ρ_ w_ => ∃ a7340 : List Ref, ∃ a7342 : Int, (a7340, a7342) = o7343 ∧ ρ_ = [(1, .int .i64 a7342)] ∧ Mem w X w_ [own kRef 56 p0 a7340]) ?_ ?_
  · clear H
    refine run_seq ?_
    refine run_region rfl ?_
    refine ops_ex rfl (guard_none rfl) rfl rfl (ex_assign rfl rfl) ?_
    refine ops_nil ?_
    refine at_then ?_
    refine run_block ?_
    refine run_loop (fun k_ ρ_ w_ => ∃ a7348 : List Ref, ∃ a7350 : Int, ∃ a7351 : Int, laws_markRefS.l0 k_ a7348 a7350 a7351 = some o7343 ∧ ρ_ = [(0, p0), (1, .int .i64 a7350), (5, .int .i64 a7351)] ∧ Mem w X w_ [own kRef 56 p0 a7348]) k (ρ1 := [(0, p0), (1, .int .i64 x1), (5, .int .i64 0)]) ⟨_, _, _, ho7344, rfl, HM⟩ (Sub.cons rfl (Sub.cons rfl (Sub.cons rfl Sub.nil))) ?_
    clear HM ho7344
    rintro k7355 _ w7356 ⟨a7348, a7350, a7351, ho7344, rfl, HM⟩
    obtain _ | k7355 := k7355
    · exact nomatch ((laws_markRefS.l0_z a7348 a7350 a7351).symm.trans ho7344)
    replace ho7344 := (laws_markRefS.l0_s k7355 a7348 a7350 a7351).symm.trans ho7344
    refine run_seq ?_
    refine run_seq ?_
    refine run_region rfl ?_
    refine ops_ex rfl (guard_none rfl) rfl rfl (ex_move rfl rfl) ?_
    refine ops_ex rfl (guard_none rfl) rfl rfl (ex_move rfl rfl) ?_
    refine ops_ex rfl (guard_none rfl) rfl rfl (ex_len (d := kRef) (xs := a7348) rfl rfl Tryz.underlying34 (HM.own_rd 0 rfl)) ?_
    refine ops_ex rfl (guard_none rfl) rfl rfl (ex_lss rfl rfl rfl) ?_
    refine ops_nil ?_
    refine at_then ?_
    refine run_cond (b := (decide (a7351 < (a7348.length : Int)))) rfl (fun hb7357 => ?_) (fun hb7357 => ?_)
    · replace ho7344 := cond_t hb7357 ho7344
      refine run_skip ?_
      refine at_then ?_
      refine run_seq ?_
      refine run_block ?_
      refine run_seq ?_
      obtain ⟨e7358, ho7344⟩ := chk_some ho7344
      refine run_region rfl ?_
      refine ops_ex rfl (guard_none rfl) rfl rfl (ex_move rfl rfl) ?_
      refine ops_ex rfl (guard_none rfl) rfl rfl (ex_move rfl rfl) ?_
      refine ops_ex rfl (guard_none rfl) rfl rfl (ex_move rfl rfl) ?_
      refine ops_ex rfl (guard_none rfl) rfl rfl (ex_indexAddr (d := kRef) rfl rfl rfl Tryz.underlying34 tsz56 (HM.own_rd 0 rfl) (idx_lo e7358) (idx_hi e7358)) ?_
      refine ops_ex rfl (guard_none rfl) rfl rfl (ex_fieldAddr (off' := so p0 + (a7351).toNat * 2) rfl rfl Tryz.underlying56 rfl tsz2 rfl) ?_
      refine ops_doesS rfl (guard_none rfl) rfl (does_setField (fo := 0) (vs := [(.int .i64 a7350)]) (y := (⟨a7350, (gt a7348 a7351).fAt⟩ : Ref)) kRef rfl rfl rfl rfl rfl tsz2 (Ones.int Ones.nil) rfl rfl (idx_nat e7358) (fun _ _ _ h => by rw [← gt_eq (idx_nat e7358)] at h; obtain ⟨rfl, h2⟩ := h; exact ⟨rfl, h2⟩) HM) ?_
      rintro w7359 HM
      refine ops_nil ?_
      refine at_then ?_
      refine run_seq ?_
      refine run_region rfl ?_
      refine ops_ex rfl (guard_none rfl) rfl rfl (ex_move rfl rfl) ?_
      refine ops_ex rfl (guard_none rfl) rfl rfl (ex_add rfl rfl rfl) ?_
      refine ops_ex rfl (guard_none rfl) rfl rfl (ex_assign rfl rfl) ?_
      refine ops_nil ?_
      refine at_then ?_
      refine run_seq ?_
      refine run_region rfl ?_
      refine ops_ex rfl (guard_none rfl) rfl rfl (ex_move rfl rfl) ?_
      refine ops_ex rfl (guard_none rfl) rfl rfl (ex_move rfl rfl) ?_
      refine ops_ex rfl (guard_none rfl) rfl rfl (ex_move rfl rfl) ?_
      have e7360 : idxOk a7351 (a7348.set (a7351).toNat (⟨a7350, (gt a7348 a7351).fAt⟩ : Ref)).length = true := len_set e7358
      refine ops_ex rfl (guard_none rfl) rfl rfl (ex_indexAddr (d := kRef) rfl rfl rfl Tryz.underlying34 tsz56 (HM.own_rd 0 rfl) (idx_lo e7360) (idx_hi e7360)) ?_
      refine ops_ex rfl (guard_none rfl) rfl rfl (ex_fieldAddr (off' := so p0 + (a7351).toNat * 2 + 1) rfl rfl Tryz.underlying56 rfl tsz2 rfl) ?_
      refine ops_doesS rfl (guard_none rfl) rfl (does_setField (fo := 1) (vs := [(.int .i64 (wrap64 (a7350 + 1)))]) (y := (⟨a7350, wrap64 (a7350 + 1)⟩ : Ref)) kRef rfl rfl rfl rfl rfl tsz2 (Ones.int Ones.nil) rfl rfl (idx_nat e7360) (fun _ _ _ h => by rw [List.getElem_set_self] at h; obtain ⟨rfl, h2⟩ := h; exact ⟨rfl, h2⟩) HM) ?_
      rintro w7361 HM
      replace HM := HM.set2
      refine ops_nil ?_
      refine at_then ?_
      refine run_region rfl ?_
      refine ops_ex rfl (guard_none rfl) rfl rfl (ex_move rfl rfl) ?_
      refine ops_ex rfl (guard_none rfl) rfl rfl (ex_add rfl rfl rfl) ?_
      refine ops_ex rfl (guard_none rfl) rfl rfl (ex_assign rfl rfl) ?_
      refine ops_nil ?_
      refine at_block ?_
      refine at_then ?_
      refine run_region rfl ?_
      refine ops_ex rfl (guard_none rfl) rfl rfl (ex_move rfl rfl) ?_
      refine ops_ex rfl (guard_none rfl) rfl rfl (ex_add rfl rfl rfl) ?_
      refine ops_ex rfl (guard_none rfl) rfl rfl (ex_assign rfl rfl) ?_
      refine ops_nil ?_
      exact at_again k7355 (ρ1 := [(0, p0), (1, .int .i64 (wrap64 ((wrap64 (a7350 + 1)) + 1))), (5, .int .i64 (wrap64 (a7351 + 1)))]) (Nat.lt_succ_self _) ⟨_, _, _, ho7344, rfl, HM⟩ (Sub.cons rfl (Sub.cons rfl (Sub.cons rfl Sub.nil)))
    · replace ho7344 := cond_f hb7357 ho7344
      refine run_exit ?_
      refine at_then_exit ?_
      refine at_then_exit ?_
      refine at_block_exit ?_
      exact at_mid (ρ' := [(1, .int .i64 a7350)]) ⟨_, _, (Option.some.inj ho7344), rfl, HM⟩ (Sub.cons rfl Sub.nil)
  · rintro _ w7362 ⟨a7340, a7342, rfl, rfl, HM⟩
    replace H := cur2_mk H
    refine run_seq ?_
    refine run_region rfl ?_
    refine ops_ex rfl (guard_none rfl) rfl rfl (ex_move rfl rfl) ?_
    refine ops_ex rfl (guard_none rfl) rfl rfl (ex_assign rfl rfl) ?_
    refine ops_nil ?_
    refine at_then ?_
    refine run_ret ?_
    have hR := Option.some.inj H
    subst hR
    exact at_ret1 rfl rfl ⟨_, rfl, rfl, HM⟩

def laws_markOutS.l0  : Nat → (List Out) → Int → Int → Option ((List Out) × Int)
  | 0, _, _, _ => none
  | k + 1, a7521, a7523, a7524 => (bif (decide (a7524 < (a7521.length : Int))) then (chk (idxOk a7524 a7521.length) ((laws_markInt64S.f k ((gt a7521 a7524).fRule.fKeys) (wrap64 (a7523 + 1))).bind fun t7552 => laws_markOutS.l0 k (a7521.set (a7524).toNat (⟨a7523, (⟨t7552.2, t7552.1, wrap64 (t7552.1 + 1)⟩ : Rule)⟩ : Out)) (wrap64 ((wrap64 (t7552.1 + 1)) + 1)) (wrap64 (a7524 + 1)))) else some (a7521, a7523))
theorem laws_markOutS.l0_z  (a7521 : List Out) (a7523 : Int) (a7524 : Int) : laws_markOutS.l0 0 a7521 a7523 a7524 = none := rfl
theorem laws_markOutS.l0_s  (k : Nat) (a7521 : List Out) (a7523 : Int) (a7524 : Int) : laws_markOutS.l0 (k + 1) a7521 a7523 a7524 = (bif (decide (a7524 < (a7521.length : Int))) then (chk (idxOk a7524 a7521.length) ((laws_markInt64S.f k ((gt a7521 a7524).fRule.fKeys) (wrap64 (a7523 + 1))).bind fun t7552 => laws_markOutS.l0 k (a7521.set (a7524).toNat (⟨a7523, (⟨t7552.2, t7552.1, wrap64 (t7552.1 + 1)⟩ : Rule)⟩ : Out)) (wrap64 ((wrap64 (t7552.1 + 1)) + 1)) (wrap64 (a7524 + 1)))) else some (a7521, a7523)) := rfl
def laws_markOutS.f (k : Nat) (x0 : List Out) (x1 : Int) : Option (Int × (List Out)) := ((laws_markOutS.l0 k x0 x1 0).bind (cur2 (fun a7499 a7501 => some (a7501, a7499))))
theorem laws_markOutS.calls {k : Nat} {x0 : List Out} {x1 : Int} {p0 : Value} {w wo : World} {X : List Nat} (hwo : Olds wo w X) (hX : Hold w [own kOut 75 p0 x0] X) (hXn : X.Nodup) (hXl : ∀ b ∈ X, b < w.heap.size)  {r : Int × (List Out)} (H : laws_markOutS.f k x0 x1 = some r) :
    Calls Tryz.prog 45 ([p0, .int .i64 x1] : List Value).toArray w (fun e w_ => ∃ v, e = .returned v ∧ v = (.int .i64 r.1) ∧ Mem w X w_ [own kOut 75 p0 r.2]) := by
  have HM := Mem.startX hX hXn hXl
  refine calls_run (N := 44) Tryz.func45 rfl rfl rfl rfl ?_
  unfold laws_markOutS.f at H
  refine run_seq ?_
  refine run_region rfl ?_
  refine ops_ex rfl (guard_none rfl) rfl rfl (ex_assign rfl rfl) ?_
  refine ops_nil ?_
  refine at_then ?_
  obtain ⟨o7502, ho7503, H⟩ := bind_some H
  refine run_mid (fun ρ_ w_ => ∃ a7499 : List Out, ∃ a7501 : Int, (a7499, a7501) = o7502 ∧ ρ_ = [(1, .int .i64 a7501)] ∧ Mem w X w_ [own kOut 75 p0 a7499]) ?_ ?_
  · clear H
    refine run_seq ?_
    refine run_region rfl ?_
    refine ops_ex rfl (guard_none rfl) rfl rfl (ex_assign rfl rfl) ?_
    refine ops_nil ?_
    refine at_then ?_
    refine run_block ?_
    refine run_loop (fun k_ ρ_ w_ => ∃ a7521 : List Out, ∃ a7523 : Int, ∃ a7524 : Int, laws_markOutS.l0 k_ a7521 a7523 a7524 = some o7502 ∧ ρ_ = [(0, p0), (1, .int .i64 a7523), (5, .int .i64 a7524)] ∧ Mem w X w_ [own kOut 75 p0 a7521]) k (ρ1 := [(0, p0), (1, .int .i64 x1), (5, .int .i64 0)]) ⟨_, _, _, ho7503, rfl, HM⟩ (Sub.cons rfl (Sub.cons rfl (Sub.cons rfl Sub.nil))) ?_
    clear HM ho7503
    rintro k7542 _ w7543 ⟨a7521, a7523, a7524, ho7503, rfl, HM⟩
    obtain _ | k7542 := k7542
    · exact nomatch ((laws_markOutS.l0_z a7521 a7523 a7524).symm.trans ho7503)
    replace ho7503 := (laws_markOutS.l0_s k7542 a7521 a7523 a7524).symm.trans ho7503
    refine run_seq ?_
    refine run_seq ?_
    refine run_region rfl ?_
    refine ops_ex rfl (guard_none rfl) rfl rfl (ex_move rfl rfl) ?_
    refine ops_ex rfl (guard_none rfl) rfl rfl (ex_move rfl rfl) ?_
    refine ops_ex rfl (guard_none rfl) rfl rfl (ex_len (d := kOut) (xs := a7521) rfl rfl Tryz.underlying35 (HM.own_rd 0 rfl)) ?_
    refine ops_ex rfl (guard_none rfl) rfl rfl (ex_lss rfl rfl rfl) ?_
    refine ops_nil ?_
    refine at_then ?_
    refine run_cond (b := (decide (a7524 < (a7521.length : Int)))) rfl (fun hb7544 => ?_) (fun hb7544 => ?_)
    · replace ho7503 := cond_t hb7544 ho7503
      refine run_skip ?_
      refine at_then ?_
      refine run_seq ?_
      refine run_block ?_
      refine run_seq ?_
      obtain ⟨e7545, ho7503⟩ := chk_some ho7503
      refine run_region rfl ?_
      refine ops_ex rfl (guard_none rfl) rfl rfl (ex_move rfl rfl) ?_
      refine ops_ex rfl (guard_none rfl) rfl rfl (ex_move rfl rfl) ?_
      refine ops_ex rfl (guard_none rfl) rfl rfl (ex_move rfl rfl) ?_
      refine ops_ex rfl (guard_none rfl) rfl rfl (ex_indexAddr (d := kOut) rfl rfl rfl Tryz.underlying35 tsz75 (HM.own_rd 0 rfl) (idx_lo e7545) (idx_hi e7545)) ?_
      refine ops_ex rfl (guard_none rfl) rfl rfl (ex_fieldAddr (off' := so p0 + (a7524).toNat * 4) rfl rfl Tryz.underlying75 rfl tsz2 rfl) ?_
      refine ops_doesS rfl (guard_none rfl) rfl (does_setField (fo := 0) (vs := [(.int .i64 a7523)]) (y := (⟨a7523, (gt a7521 a7524).fRule⟩ : Out)) kOut rfl rfl rfl rfl rfl tsz2 (Ones.int Ones.nil) rfl rfl (idx_nat e7545) (fun _ _ _ h => by rw [← gt_eq (idx_nat e7545)] at h; obtain ⟨_, rfl, h2⟩ := h; exact ⟨_, rfl, h2⟩) HM) ?_
      rintro w7546 HM
      refine ops_nil ?_
      refine at_then ?_
      refine run_seq ?_
      refine run_region rfl ?_
      refine ops_ex rfl (guard_none rfl) rfl rfl (ex_move rfl rfl) ?_
      refine ops_ex rfl (guard_none rfl) rfl rfl (ex_add rfl rfl rfl) ?_
      refine ops_ex rfl (guard_none rfl) rfl rfl (ex_assign rfl rfl) ?_
      refine ops_nil ?_
      refine at_then ?_
      refine run_seq ?_
      obtain ⟨t7552, h7553, ho7503⟩ := bind_some ho7503
      refine run_region rfl ?_
      refine ops_ex rfl (guard_none rfl) rfl rfl (ex_move rfl rfl) ?_
      refine ops_ex rfl (guard_none rfl) rfl rfl (ex_move rfl rfl) ?_
      have e7547 : idxOk a7524 (a7521.set (a7524).toNat (⟨a7523, (gt a7521 a7524).fRule⟩ : Out)).length = true := len_set e7545
      refine ops_ex rfl (guard_none rfl) rfl rfl (ex_indexAddr (d := kOut) rfl rfl rfl Tryz.underlying35 tsz75 (HM.own_rd 0 rfl) (idx_lo e7547) (idx_hi e7547)) ?_
      refine ops_ex rfl (guard_none rfl) rfl rfl (ex_fieldAddr (off' := so p0 + (a7524).toNat * 4 + 1) rfl rfl Tryz.underlying75 rfl tsz73 rfl) ?_
      refine ops_ex rfl (guard_none rfl) rfl rfl (ex_fieldAddr (off' := so p0 + (a7524).toNat * 4 + 1) rfl rfl Tryz.underlying73 rfl tsz60 rfl) ?_
      obtain ⟨u7548, hc7549, HM⟩ := HM.open1 e7547 (gt_set2 e7545)
      refine ops_ex rfl (guard_none rfl) rfl rfl (ex_load1 rfl rfl Tryz.underlying60 rfl (hc7549 1 _ rfl)) ?_
      refine ops_ex rfl (guard_none rfl) rfl rfl (ex_move rfl rfl) ?_
      obtain ⟨F7554, hF7555, hFn7556, hFl7557, HMh7558, hcl7559⟩ := HM.hide (Ms := [own kInt 2 u7548 ((gt a7521 a7524).fRule.fKeys)])
      refine ops_does rfl (guard_none rfl) rfl rfl (does_callk rfl callok43 rfl (laws_markInt64S.calls (x0 := (gt a7521 a7524).fRule.fKeys) (x1 := wrap64 (a7523 + 1)) (hide_olds _ _) hF7555 hFn7556 hFl7557 h7553)) ?_
      rintro _ w7560 ⟨rfl, hn⟩
      replace HM : Mem w X w7560 [own kInt 2 u7548 t7552.2, hole kOut (fun u_ => [(.int .i64 a7523), u_, (.int .i64 ((gt a7521 a7524).fRule.fNeed)), (.int .i64 ((gt a7521 a7524).fRule.fAfter))]) 75 p0 (a7521.set (a7524).toNat (⟨a7523, (gt a7521 a7524).fRule⟩ : Out)) (a7524).toNat u7548] := hcl7559 _ _ hn
      replace HM := HM.front 1 rfl rfl
      replace HM := HM.front 1 rfl rfl
      replace HM := Mem.close1 (⟨a7523, (⟨t7552.2, (gt a7521 a7524).fRule.fNeed, (gt a7521 a7524).fRule.fAfter⟩ : Rule)⟩ : Out) HM rfl rfl
      replace HM := HM.set2
      refine ops_ex rfl (guard_none rfl) rfl rfl (ex_assign rfl rfl) ?_
      refine ops_nil ?_
      refine at_then ?_
      refine run_seq ?_
      refine run_region rfl ?_
      refine ops_ex rfl (guard_none rfl) rfl rfl (ex_move rfl rfl) ?_
      refine ops_ex rfl (guard_none rfl) rfl rfl (ex_move rfl rfl) ?_
      refine ops_ex rfl (guard_none rfl) rfl rfl (ex_move rfl rfl) ?_
      have e7561 : idxOk a7524 (a7521.set (a7524).toNat (⟨a7523, (⟨t7552.2, (gt a7521 a7524).fRule.fNeed, (gt a7521 a7524).fRule.fAfter⟩ : Rule)⟩ : Out)).length = true := len_set e7545
      refine ops_ex rfl (guard_none rfl) rfl rfl (ex_indexAddr (d := kOut) rfl rfl rfl Tryz.underlying35 tsz75 (HM.own_rd 0 rfl) (idx_lo e7561) (idx_hi e7561)) ?_
      refine ops_ex rfl (guard_none rfl) rfl rfl (ex_fieldAddr (off' := so p0 + (a7524).toNat * 4 + 1) rfl rfl Tryz.underlying75 rfl tsz73 rfl) ?_
      refine ops_ex rfl (guard_none rfl) rfl rfl (ex_fieldAddr (off' := so p0 + (a7524).toNat * 4 + 2) rfl rfl Tryz.underlying73 rfl tsz2 rfl) ?_
      refine ops_doesS rfl (guard_none rfl) rfl (does_setField (fo := 2) (vs := [(.int .i64 t7552.1)]) (y := (⟨a7523, (⟨t7552.2, t7552.1, (gt a7521 a7524).fRule.fAfter⟩ : Rule)⟩ : Out)) kOut rfl rfl rfl rfl rfl tsz2 (Ones.int Ones.nil) rfl rfl (idx_nat e7561) (fun _ _ _ h => by rw [List.getElem_set_self] at h; obtain ⟨_, rfl, h2⟩ := h; exact ⟨_, rfl, h2⟩) HM) ?_
      rintro w7562 HM
      replace HM := HM.set2
      refine ops_nil ?_
      refine at_then ?_
      refine run_seq ?_
      refine run_region rfl ?_
      refine ops_ex rfl (guard_none rfl) rfl rfl (ex_move rfl rfl) ?_
      refine ops_ex rfl (guard_none rfl) rfl rfl (ex_add rfl rfl rfl) ?_
      refine ops_ex rfl (guard_none rfl) rfl rfl (ex_assign rfl rfl) ?_
      refine ops_nil ?_
      refine at_then ?_
      refine run_seq ?_
      refine run_region rfl ?_
      refine ops_ex rfl (guard_none rfl) rfl rfl (ex_move rfl rfl) ?_
      refine ops_ex rfl (guard_none rfl) rfl rfl (ex_move rfl rfl) ?_
      refine ops_ex rfl (guard_none rfl) rfl rfl (ex_move rfl rfl) ?_
      have e7563 : idxOk a7524 (a7521.set (a7524).toNat (⟨a7523, (⟨t7552.2, t7552.1, (gt a7521 a7524).fRule.fAfter⟩ : Rule)⟩ : Out)).length = true := len_set e7545
      refine ops_ex rfl (guard_none rfl) rfl rfl (ex_indexAddr (d := kOut) rfl rfl rfl Tryz.underlying35 tsz75 (HM.own_rd 0 rfl) (idx_lo e7563) (idx_hi e7563)) ?_
      refine ops_ex rfl (guard_none rfl) rfl rfl (ex_fieldAddr (off' := so p0 + (a7524).toNat * 4 + 1) rfl rfl Tryz.underlying75 rfl tsz73 rfl) ?_
      refine ops_ex rfl (guard_none rfl) rfl rfl (ex_fieldAddr (off' := so p0 + (a7524).toNat * 4 + 3) rfl rfl Tryz.underlying73 rfl tsz2 rfl) ?_
      refine ops_doesS rfl (guard_none rfl) rfl (does_setField (fo := 3) (vs := [(.int .i64 (wrap64 (t7552.1 + 1)))]) (y := (⟨a7523, (⟨t7552.2, t7552.1, wrap64 (t7552.1 + 1)⟩ : Rule)⟩ : Out)) kOut rfl rfl rfl rfl rfl tsz2 (Ones.int Ones.nil) rfl rfl (idx_nat e7563) (fun _ _ _ h => by rw [List.getElem_set_self] at h; obtain ⟨_, rfl, h2⟩ := h; exact ⟨_, rfl, h2⟩) HM) ?_
      rintro w7564 HM
      replace HM := HM.set2
      refine ops_nil ?_
      refine at_then ?_
      refine run_region rfl ?_
      refine ops_ex rfl (guard_none rfl) rfl rfl (ex_move rfl rfl) ?_
      refine ops_ex rfl (guard_none rfl) rfl rfl (ex_add rfl rfl rfl) ?_
      refine ops_ex rfl (guard_none rfl) rfl rfl (ex_assign rfl rfl) ?_
      refine ops_nil ?_
      refine at_block ?_
      refine at_then ?_
      refine run_region rfl ?_
      refine ops_ex rfl (guard_none rfl) rfl rfl (ex_move rfl rfl) ?_
      refine ops_ex rfl (guard_none rfl) rfl rfl (ex_add rfl rfl rfl) ?_
      refine ops_ex rfl (guard_none rfl) rfl rfl (ex_assign rfl rfl) ?_
      refine ops_nil ?_
      exact at_again k7542 (ρ1 := [(0, p0), (1, .int .i64 (wrap64 ((wrap64 (t7552.1 + 1)) + 1))), (5, .int .i64 (wrap64 (a7524 + 1)))]) (Nat.lt_succ_self _) ⟨_, _, _, ho7503, rfl, HM⟩ (Sub.cons rfl (Sub.cons rfl (Sub.cons rfl Sub.nil)))
    · replace ho7503 := cond_f hb7544 ho7503
      refine run_exit ?_
      refine at_then_exit ?_
      refine at_then_exit ?_
      refine at_block_exit ?_
      exact at_mid (ρ' := [(1, .int .i64 a7523)]) ⟨_, _, (Option.some.inj ho7503), rfl, HM⟩ (Sub.cons rfl Sub.nil)
  · rintro _ w7565 ⟨a7499, a7501, rfl, rfl, HM⟩
    replace H := cur2_mk H
    refine run_seq ?_
    refine run_region rfl ?_
    refine ops_ex rfl (guard_none rfl) rfl rfl (ex_move rfl rfl) ?_
    refine ops_ex rfl (guard_none rfl) rfl rfl (ex_assign rfl rfl) ?_
    refine ops_nil ?_
    refine at_then ?_
    refine run_ret ?_
    have hR := Option.some.inj H
    subst hR
    exact at_ret1 rfl rfl ⟨_, rfl, rfl, HM⟩

def laws_markTx.f (k : Nat) (x0 : Tx) (x1 : Int) : Option (Int × (List Ref) × (List Out)) := ((laws_markRefS.f k x0.fIns x1).bind fun t7578 => ((laws_markOutS.f k x0.fOuts t7578.1).bind fun t7587 => some (t7587.1, t7578.2, t7587.2)))
theorem laws_markTx.calls {k : Nat} {x0 : Tx} {x1 : Int} {p0_0 : Value} {p0_1 : Value} {w wo : World} {X : List Nat} (hwo : Olds wo w X) (hX : Hold w [own kRef 56 p0_0 x0.fIns, own kOut 75 p0_1 x0.fOuts] X) (hXn : X.Nodup) (hXl : ∀ b ∈ X, b < w.heap.size)  {r : Int × (List Ref) × (List Out)} (H : laws_markTx.f k x0 x1 = some r) :
    Calls Tryz.prog 17 ([.agg #[(.int .i64 x0.fKind), (.int .i64 x0.fMember), p0_0, p0_1], .int .i64 x1] : List Value).toArray w (fun e w_ => ∃ v, e = .returned v ∧ v = (.int .i64 r.1) ∧ Mem w X w_ [own kRef 56 p0_0 r.2.1, own kOut 75 p0_1 r.2.2]) := by
  have HM := Mem.startX hX hXn hXl
  refine calls_run (N := 14) Tryz.func17 rfl rfl rfl rfl ?_
  unfold laws_markTx.f at H
  refine run_seq ?_
  refine run_region rfl ?_
  refine ops_does rfl (guard_none rfl) rfl rfl (does_box (cs := [.int .i64 x0.fKind, .int .i64 x0.fMember, p0_0, p0_1]) rfl rfl rfl HM) ?_
  rintro _ w7577 ⟨b7574, rfl, HM⟩
  refine ops_ex rfl (guard_none rfl) rfl rfl (ex_assign rfl rfl) ?_
  refine ops_nil ?_
  refine at_then ?_
  refine run_seq ?_
  obtain ⟨t7578, h7579, H⟩ := bind_some H
  refine run_region rfl ?_
  refine ops_ex rfl (guard_none rfl) rfl rfl (ex_fieldAddr (off' := 2) rfl rfl Tryz.underlying37 rfl tsz34 rfl) ?_
  refine ops_ex rfl (guard_none rfl) rfl rfl (ex_load1 rfl rfl Tryz.underlying34 rfl ((HM.box_at 0 rfl) 2 _ rfl)) ?_
  refine ops_ex rfl (guard_none rfl) rfl rfl (ex_move rfl rfl) ?_
  replace HM := HM.front 1 rfl rfl
  obtain ⟨F7580, hF7581, hFn7582, hFl7583, HMh7584, hcl7585⟩ := HM.hide (Ms := [own kRef 56 p0_0 x0.fIns])
  refine ops_does rfl (guard_none rfl) rfl rfl (does_callk rfl callok44 rfl (laws_markRefS.calls (x0 := x0.fIns) (x1 := x1) (hide_olds _ _) hF7581 hFn7582 hFl7583 h7579)) ?_
  rintro _ w7586 ⟨rfl, hn⟩
  replace HM : Mem w X w7586 [own kRef 56 p0_0 t7578.2, box b7574 37 [.int .i64 x0.fKind, .int .i64 x0.fMember, p0_0, p0_1], own kOut 75 p0_1 x0.fOuts] := hcl7585 _ _ hn
  refine ops_ex rfl (guard_none rfl) rfl rfl (ex_assign rfl rfl) ?_
  refine ops_nil ?_
  refine at_then ?_
  refine run_seq ?_
  obtain ⟨t7587, h7588, H⟩ := bind_some H
  refine run_region rfl ?_
  refine ops_ex rfl (guard_none rfl) rfl rfl (ex_fieldAddr (off' := 3) rfl rfl Tryz.underlying37 rfl tsz35 rfl) ?_
  refine ops_ex rfl (guard_none rfl) rfl rfl (ex_load1 rfl rfl Tryz.underlying35 rfl ((HM.box_at 1 rfl) 3 _ rfl)) ?_
  refine ops_ex rfl (guard_none rfl) rfl rfl (ex_move rfl rfl) ?_
  replace HM := HM.front 2 rfl rfl
  obtain ⟨F7589, hF7590, hFn7591, hFl7592, HMh7593, hcl7594⟩ := HM.hide (Ms := [own kOut 75 p0_1 x0.fOuts])
  refine ops_does rfl (guard_none rfl) rfl rfl (does_callk rfl callok45 rfl (laws_markOutS.calls (x0 := x0.fOuts) (x1 := t7578.1) (hide_olds _ _) hF7590 hFn7591 hFl7592 h7588)) ?_
  rintro _ w7595 ⟨rfl, hn⟩
  replace HM : Mem w X w7595 [own kOut 75 p0_1 t7587.2, own kRef 56 p0_0 t7578.2, box b7574 37 [.int .i64 x0.fKind, .int .i64 x0.fMember, p0_0, p0_1]] := hcl7594 _ _ hn
  refine ops_ex rfl (guard_none rfl) rfl rfl (ex_assign rfl rfl) ?_
  refine ops_nil ?_
  refine at_then ?_
  refine run_seq ?_
  refine run_region rfl ?_
  refine ops_ex rfl (guard_none rfl) rfl rfl (ex_move rfl rfl) ?_
  refine ops_ex rfl (guard_none rfl) rfl rfl (ex_assign rfl rfl) ?_
  refine ops_nil ?_
  refine at_then ?_
  refine run_ret ?_
  replace HM := (HM.front 2 rfl rfl).drop
  replace HM := HM.front 1 rfl rfl
  have hR := Option.some.inj H
  subst hR
  exact at_ret1 rfl rfl ⟨_, rfl, rfl, HM⟩

def laws_markCoinsResult.f (k : Nat) (x0 : CoinsResult) (x1 : Int) : Option (Int × (List Coin)) := ((laws_markCoinS.f k x0.fCoins x1).bind fun t7631 => some (t7631.1, t7631.2))
theorem laws_markCoinsResult.calls {k : Nat} {x0 : CoinsResult} {x1 : Int} {p0_0 : Value} {w wo : World} {X : List Nat} (hwo : Olds wo w X) (hX : Hold w [own kCoin 77 p0_0 x0.fCoins] X) (hXn : X.Nodup) (hXl : ∀ b ∈ X, b < w.heap.size)  {r : Int × (List Coin)} (H : laws_markCoinsResult.f k x0 x1 = some r) :
    Calls Tryz.prog 18 ([.agg #[(.int .i64 x0.fCode), p0_0], .int .i64 x1] : List Value).toArray w (fun e w_ => ∃ v, e = .returned v ∧ v = (.int .i64 r.1) ∧ Mem w X w_ [own kCoin 77 p0_0 r.2]) := by
  have HM := Mem.startX hX hXn hXl
  refine calls_run (N := 10) Tryz.func18 rfl rfl rfl rfl ?_
  unfold laws_markCoinsResult.f at H
  refine run_seq ?_
  refine run_region rfl ?_
  refine ops_does rfl (guard_none rfl) rfl rfl (does_box (cs := [.int .i64 x0.fCode, p0_0]) rfl rfl rfl HM) ?_
  rintro _ w7630 ⟨b7627, rfl, HM⟩
  refine ops_ex rfl (guard_none rfl) rfl rfl (ex_assign rfl rfl) ?_
  refine ops_nil ?_
  refine at_then ?_
  refine run_seq ?_
  obtain ⟨t7631, h7632, H⟩ := bind_some H
  refine run_region rfl ?_
  refine ops_ex rfl (guard_none rfl) rfl rfl (ex_fieldAddr (off' := 1) rfl rfl Tryz.underlying31 rfl tsz29 rfl) ?_
  refine ops_ex rfl (guard_none rfl) rfl rfl (ex_load1 rfl rfl Tryz.underlying29 rfl ((HM.box_at 0 rfl) 1 _ rfl)) ?_
  refine ops_ex rfl (guard_none rfl) rfl rfl (ex_move rfl rfl) ?_
  replace HM := HM.front 1 rfl rfl
  obtain ⟨F7633, hF7634, hFn7635, hFl7636, HMh7637, hcl7638⟩ := HM.hide (Ms := [own kCoin 77 p0_0 x0.fCoins])
  refine ops_does rfl (guard_none rfl) rfl rfl (does_callk rfl callok16 rfl (laws_markCoinS.calls (x0 := x0.fCoins) (x1 := x1) (hide_olds _ _) hF7634 hFn7635 hFl7636 h7632)) ?_
  rintro _ w7639 ⟨rfl, hn⟩
  replace HM : Mem w X w7639 [own kCoin 77 p0_0 t7631.2, box b7627 31 [.int .i64 x0.fCode, p0_0]] := hcl7638 _ _ hn
  refine ops_ex rfl (guard_none rfl) rfl rfl (ex_assign rfl rfl) ?_
  refine ops_nil ?_
  refine at_then ?_
  refine run_seq ?_
  refine run_region rfl ?_
  refine ops_ex rfl (guard_none rfl) rfl rfl (ex_move rfl rfl) ?_
  refine ops_ex rfl (guard_none rfl) rfl rfl (ex_assign rfl rfl) ?_
  refine ops_nil ?_
  refine at_then ?_
  refine run_ret ?_
  replace HM := (HM.front 1 rfl rfl).drop
  have hR := Option.some.inj H
  subst hR
  exact at_ret1 rfl rfl ⟨_, rfl, rfl, HM⟩
end Go.Proofs.YtcamddjlhchkfaaGreat.Zk
