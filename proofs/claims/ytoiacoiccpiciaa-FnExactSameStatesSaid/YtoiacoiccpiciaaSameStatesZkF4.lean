/- What functions of the program compute, each as a plain function, and that they do. Conditions: as each theorem states them. -/
import Derived.Test.YtoiacoiccpiciaaSameStatesZkF3
namespace Go.Proofs.Ytoiacoiccpiciaa.Zk
open Go Go.RowKit Go.IntWalk Go.Proofs
set_option linter.unusedVariables false
set_option linter.unusedSimpArgs false
set_option maxRecDepth 100000
set_option maxHeartbeats 4000000
def laws_eqCoin.f (k : Nat) (x0 : Coin) (x1 : Coin) : Option Bool := ((laws_eqRef.f k x0.fRef x1.fRef).bind fun t1963 => (bif !t1963 then some false else ((laws_eqOut.f k x0.fOut x1.fOut).bind fun t1970 => (bif !t1970 then some false else (bif (x0.fHeight != x1.fHeight) then some false else (bif (x0.fMined != x1.fMined) then some false else some true))))))
theorem laws_eqCoin.calls {k : Nat} {x0 : Coin} {x1 : Coin} {p0_0 : Value} {p1_0 : Value} {w : World} (hp0_0 : RdS kInt w p0_0 x0.fOut.fRule.fKeys) (hp1_0 : RdS kInt w p1_0 x1.fOut.fRule.fKeys) {r : Bool} (H : laws_eqCoin.f k x0 x1 = some r) :
    Calls Try.prog 67 ([.agg #[(.int .i64 x0.fRef.fTx), (.int .i64 x0.fRef.fAt), (.int .i64 x0.fOut.fValue), p0_0, (.int .i64 x0.fOut.fRule.fNeed), (.int .i64 x0.fOut.fRule.fAfter), (.int .i64 x0.fHeight), (.bool x0.fMined)], .agg #[(.int .i64 x1.fRef.fTx), (.int .i64 x1.fRef.fAt), (.int .i64 x1.fOut.fValue), p1_0, (.int .i64 x1.fOut.fRule.fNeed), (.int .i64 x1.fOut.fRule.fAfter), (.int .i64 x1.fHeight), (.bool x1.fMined)]] : List Value).toArray w (fun e w_ => ∃ v, e = .returned v ∧ v = (.bool r) ∧ Mem w [] w_ []) := by
  have HM := Mem.start w
  refine calls_run (N := 27) Try.func67 rfl rfl rfl rfl ?_
  unfold laws_eqCoin.f at H
  refine run_seq ?_
  refine run_region rfl ?_
  refine ops_does rfl (guard_none rfl) rfl rfl (does_box (cs := [.int .i64 x0.fRef.fTx, .int .i64 x0.fRef.fAt, .int .i64 x0.fOut.fValue, p0_0, .int .i64 x0.fOut.fRule.fNeed, .int .i64 x0.fOut.fRule.fAfter, .int .i64 x0.fHeight, .bool x0.fMined]) rfl rfl rfl HM) ?_
  rintro _ w1958 ⟨b1952, rfl, HM⟩
  refine ops_does rfl (guard_none rfl) rfl rfl (does_box (cs := [.int .i64 x1.fRef.fTx, .int .i64 x1.fRef.fAt, .int .i64 x1.fOut.fValue, p1_0, .int .i64 x1.fOut.fRule.fNeed, .int .i64 x1.fOut.fRule.fAfter, .int .i64 x1.fHeight, .bool x1.fMined]) rfl rfl rfl HM) ?_
  rintro _ w1959 ⟨b1955, rfl, HM⟩
  refine ops_ex rfl (guard_none rfl) rfl rfl (ex_assign rfl rfl) ?_
  refine ops_nil ?_
  refine at_then ?_
  refine run_seq ?_
  refine run_seq ?_
  obtain ⟨t1963, h1964, H⟩ := bind_some H
  refine run_region rfl ?_
  refine ops_ex rfl (guard_none rfl) rfl rfl (ex_fieldAddr (off' := 0) rfl rfl Try.underlying104 rfl tsz99 rfl) ?_
  refine ops_ex rfl (guard_none rfl) rfl rfl (ex_loadN (cs := [(.int .i64 x0.fRef.fTx), (.int .i64 x0.fRef.fAt)]) rfl rfl Try.underlying99 rfl tsz99 rfl ((HM.box_at 1 rfl).sub 0 2 rfl)) ?_
  refine ops_ex rfl (guard_none rfl) rfl rfl (ex_fieldAddr (off' := 0) rfl rfl Try.underlying104 rfl tsz99 rfl) ?_
  refine ops_ex rfl (guard_none rfl) rfl rfl (ex_loadN (cs := [(.int .i64 x1.fRef.fTx), (.int .i64 x1.fRef.fAt)]) rfl rfl Try.underlying99 rfl tsz99 rfl ((HM.box_at 0 rfl).sub 0 2 rfl)) ?_
  refine ops_does rfl (guard_none rfl) rfl rfl (does_callk rfl callok124 rfl (laws_eqRef.calls (x0 := x0.fRef) (x1 := x1.fRef) h1964)) ?_
  rintro _ w1965 ⟨rfl, hn⟩
  replace HM : Mem w [] w1965 [box b1955 104 [.int .i64 x1.fRef.fTx, .int .i64 x1.fRef.fAt, .int .i64 x1.fOut.fValue, p1_0, .int .i64 x1.fOut.fRule.fNeed, .int .i64 x1.fOut.fRule.fAfter, .int .i64 x1.fHeight, .bool x1.fMined], box b1952 104 [.int .i64 x0.fRef.fTx, .int .i64 x0.fRef.fAt, .int .i64 x0.fOut.fValue, p0_0, .int .i64 x0.fOut.fRule.fNeed, .int .i64 x0.fOut.fRule.fAfter, .int .i64 x0.fHeight, .bool x0.fMined]] := HM.call hn
  refine ops_ex rfl (guard_none rfl) rfl rfl (ex_not rfl rfl) ?_
  refine ops_nil ?_
  refine at_then ?_
  refine run_cond (b := !t1963) rfl (fun hb1966 => ?_) (fun hb1966 => ?_)
  · replace H := cond_t hb1966 H
    refine run_seq ?_
    refine run_region rfl ?_
    refine ops_ex rfl (guard_none rfl) rfl rfl (ex_assign rfl rfl) ?_
    refine ops_nil ?_
    refine at_then ?_
    refine run_ret ?_
    refine at_then_ret ?_
    replace HM := (HM.front 0 rfl rfl).drop
    replace HM := (HM.front 0 rfl rfl).drop
    have hR := Option.some.inj H
    subst hR
    exact at_ret1 rfl rfl ⟨_, rfl, rfl, HM⟩
  · replace H := cond_f hb1966 H
    refine run_skip ?_
    refine at_then ?_
    refine run_seq ?_
    refine run_seq ?_
    obtain ⟨t1970, h1971, H⟩ := bind_some H
    refine run_region rfl ?_
    refine ops_ex rfl (guard_none rfl) rfl rfl (ex_fieldAddr (off' := 2) rfl rfl Try.underlying104 rfl tsz102 rfl) ?_
    refine ops_ex rfl (guard_none rfl) rfl rfl (ex_loadN (cs := [(.int .i64 x0.fOut.fValue), p0_0, (.int .i64 x0.fOut.fRule.fNeed), (.int .i64 x0.fOut.fRule.fAfter)]) rfl rfl Try.underlying102 rfl tsz102 rfl ((HM.box_at 1 rfl).sub 2 4 rfl)) ?_
    refine ops_ex rfl (guard_none rfl) rfl rfl (ex_fieldAddr (off' := 2) rfl rfl Try.underlying104 rfl tsz102 rfl) ?_
    refine ops_ex rfl (guard_none rfl) rfl rfl (ex_loadN (cs := [(.int .i64 x1.fOut.fValue), p1_0, (.int .i64 x1.fOut.fRule.fNeed), (.int .i64 x1.fOut.fRule.fAfter)]) rfl rfl Try.underlying102 rfl tsz102 rfl ((HM.box_at 0 rfl).sub 2 4 rfl)) ?_
    refine ops_does rfl (guard_none rfl) rfl rfl (does_callk rfl callok125 rfl (laws_eqOut.calls (x0 := x0.fOut) (x1 := x1.fOut) (HM.rd hp0_0) (HM.rd hp1_0) h1971)) ?_
    rintro _ w1972 ⟨rfl, hn⟩
    replace HM : Mem w [] w1972 [box b1955 104 [.int .i64 x1.fRef.fTx, .int .i64 x1.fRef.fAt, .int .i64 x1.fOut.fValue, p1_0, .int .i64 x1.fOut.fRule.fNeed, .int .i64 x1.fOut.fRule.fAfter, .int .i64 x1.fHeight, .bool x1.fMined], box b1952 104 [.int .i64 x0.fRef.fTx, .int .i64 x0.fRef.fAt, .int .i64 x0.fOut.fValue, p0_0, .int .i64 x0.fOut.fRule.fNeed, .int .i64 x0.fOut.fRule.fAfter, .int .i64 x0.fHeight, .bool x0.fMined]] := HM.call hn
    refine ops_ex rfl (guard_none rfl) rfl rfl (ex_not rfl rfl) ?_
    refine ops_nil ?_
    refine at_then ?_
    refine run_cond (b := !t1970) rfl (fun hb1973 => ?_) (fun hb1973 => ?_)
    · replace H := cond_t hb1973 H
      refine run_seq ?_
      refine run_region rfl ?_
      refine ops_ex rfl (guard_none rfl) rfl rfl (ex_assign rfl rfl) ?_
      refine ops_nil ?_
      refine at_then ?_
      refine run_ret ?_
      refine at_then_ret ?_
      replace HM := (HM.front 0 rfl rfl).drop
      replace HM := (HM.front 0 rfl rfl).drop
      have hR := Option.some.inj H
      subst hR
      exact at_ret1 rfl rfl ⟨_, rfl, rfl, HM⟩
    · replace H := cond_f hb1973 H
      refine run_skip ?_
      refine at_then ?_
      refine run_seq ?_
      refine run_seq ?_
      refine run_region rfl ?_
      refine ops_ex rfl (guard_none rfl) rfl rfl (ex_fieldAddr (off' := 6) rfl rfl Try.underlying104 rfl tsz2 rfl) ?_
      refine ops_ex rfl (guard_none rfl) rfl rfl (ex_load1 rfl rfl Try.underlying2 rfl ((HM.box_at 1 rfl) 6 _ rfl)) ?_
      refine ops_ex rfl (guard_none rfl) rfl rfl (ex_fieldAddr (off' := 6) rfl rfl Try.underlying104 rfl tsz2 rfl) ?_
      refine ops_ex rfl (guard_none rfl) rfl rfl (ex_load1 rfl rfl Try.underlying2 rfl ((HM.box_at 0 rfl) 6 _ rfl)) ?_
      refine ops_ex rfl (guard_none rfl) rfl rfl (ex_neq rfl rfl rfl) ?_
      refine ops_nil ?_
      refine at_then ?_
      refine run_cond (b := (x0.fHeight != x1.fHeight)) rfl (fun hb1975 => ?_) (fun hb1975 => ?_)
      · replace H := cond_t hb1975 H
        refine run_seq ?_
        refine run_region rfl ?_
        refine ops_ex rfl (guard_none rfl) rfl rfl (ex_assign rfl rfl) ?_
        refine ops_nil ?_
        refine at_then ?_
        refine run_ret ?_
        refine at_then_ret ?_
        replace HM := (HM.front 0 rfl rfl).drop
        replace HM := (HM.front 0 rfl rfl).drop
        have hR := Option.some.inj H
        subst hR
        exact at_ret1 rfl rfl ⟨_, rfl, rfl, HM⟩
      · replace H := cond_f hb1975 H
        refine run_skip ?_
        refine at_then ?_
        refine run_seq ?_
        refine run_seq ?_
        refine run_region rfl ?_
        refine ops_ex rfl (guard_none rfl) rfl rfl (ex_fieldAddr (off' := 7) rfl rfl Try.underlying104 rfl tsz4 rfl) ?_
        refine ops_ex rfl (guard_none rfl) rfl rfl (ex_load1 rfl rfl Try.underlying4 rfl ((HM.box_at 1 rfl) 7 _ rfl)) ?_
        refine ops_ex rfl (guard_none rfl) rfl rfl (ex_fieldAddr (off' := 7) rfl rfl Try.underlying104 rfl tsz4 rfl) ?_
        refine ops_ex rfl (guard_none rfl) rfl rfl (ex_load1 rfl rfl Try.underlying4 rfl ((HM.box_at 0 rfl) 7 _ rfl)) ?_
        refine ops_ex rfl (guard_none rfl) rfl rfl (ex_bneq rfl rfl rfl Try.underlying4) ?_
        refine ops_nil ?_
        refine at_then ?_
        refine run_cond (b := (x0.fMined != x1.fMined)) rfl (fun hb1976 => ?_) (fun hb1976 => ?_)
        · replace H := cond_t hb1976 H
          refine run_seq ?_
          refine run_region rfl ?_
          refine ops_ex rfl (guard_none rfl) rfl rfl (ex_assign rfl rfl) ?_
          refine ops_nil ?_
          refine at_then ?_
          refine run_ret ?_
          refine at_then_ret ?_
          replace HM := (HM.front 0 rfl rfl).drop
          replace HM := (HM.front 0 rfl rfl).drop
          have hR := Option.some.inj H
          subst hR
          exact at_ret1 rfl rfl ⟨_, rfl, rfl, HM⟩
        · replace H := cond_f hb1976 H
          refine run_skip ?_
          refine at_then ?_
          refine run_seq ?_
          refine run_region rfl ?_
          refine ops_ex rfl (guard_none rfl) rfl rfl (ex_assign rfl rfl) ?_
          refine ops_nil ?_
          refine at_then ?_
          refine run_ret ?_
          replace HM := (HM.front 0 rfl rfl).drop
          replace HM := (HM.front 0 rfl rfl).drop
          have hR := Option.some.inj H
          subst hR
          exact at_ret1 rfl rfl ⟨_, rfl, rfl, HM⟩

def laws_eqCoinS.l0 (x0 : List Coin) (x1 : List Coin) : Nat → Int → Option (Bool ⊕ Unit)
  | 0, _ => none
  | k + 1, a2060 => (bif (decide (a2060 < (x0.length : Int))) then (chk (idxOk a2060 x0.length) (chk (idxOk a2060 x1.length) ((laws_eqCoin.f k (gt x0 a2060) (gt x1 a2060)).bind fun t2084 => (bif !t2084 then some (.inl false) else laws_eqCoinS.l0 x0 x1 k (wrap64 (a2060 + 1)))))) else some (.inr ()))
theorem laws_eqCoinS.l0_z (x0 : List Coin) (x1 : List Coin) (a2060 : Int) : laws_eqCoinS.l0 x0 x1 0 a2060 = none := rfl
theorem laws_eqCoinS.l0_s (x0 : List Coin) (x1 : List Coin) (k : Nat) (a2060 : Int) : laws_eqCoinS.l0 x0 x1 (k + 1) a2060 = (bif (decide (a2060 < (x0.length : Int))) then (chk (idxOk a2060 x0.length) (chk (idxOk a2060 x1.length) ((laws_eqCoin.f k (gt x0 a2060) (gt x1 a2060)).bind fun t2084 => (bif !t2084 then some (.inl false) else laws_eqCoinS.l0 x0 x1 k (wrap64 (a2060 + 1)))))) else some (.inr ())) := rfl
def laws_eqCoinS.f (k : Nat) (x0 : List Coin) (x1 : List Coin) : Option Bool := (bif ((x0.length : Int) != (x1.length : Int)) then some false else ((laws_eqCoinS.l0 x0 x1 k 0).bind fun o2046 => thn o2046 (fun r => some r) (fun _ => some true)))
theorem laws_eqCoinS.calls {k : Nat} {x0 : List Coin} {x1 : List Coin} {p0 : Value} {p1 : Value} {w : World} (hp0 : RdS kCoin w p0 x0) (hp1 : RdS kCoin w p1 x1) {r : Bool} (H : laws_eqCoinS.f k x0 x1 = some r) :
    Calls Try.prog 19 ([p0, p1] : List Value).toArray w (fun e w_ => ∃ v, e = .returned v ∧ v = (.bool r) ∧ Mem w [] w_ []) := by
  have HM := Mem.start w
  refine calls_run (N := 27) Try.func19 rfl rfl rfl rfl ?_
  unfold laws_eqCoinS.f at H
  refine run_seq ?_
  refine run_region rfl ?_
  refine ops_ex rfl (guard_none rfl) rfl rfl (ex_assign rfl rfl) ?_
  refine ops_nil ?_
  refine at_then ?_
  refine run_seq ?_
  refine run_seq ?_
  refine run_region rfl ?_
  refine ops_ex rfl (guard_none rfl) rfl rfl (ex_move rfl rfl) ?_
  refine ops_ex rfl (guard_none rfl) rfl rfl (ex_len (d := kCoin) (xs := x0) rfl rfl Try.underlying25 hp0) ?_
  refine ops_ex rfl (guard_none rfl) rfl rfl (ex_move rfl rfl) ?_
  refine ops_ex rfl (guard_none rfl) rfl rfl (ex_len (d := kCoin) (xs := x1) rfl rfl Try.underlying25 hp1) ?_
  refine ops_ex rfl (guard_none rfl) rfl rfl (ex_neq rfl rfl rfl) ?_
  refine ops_nil ?_
  refine at_then ?_
  refine run_cond (b := ((x0.length : Int) != (x1.length : Int))) rfl (fun hb2008 => ?_) (fun hb2008 => ?_)
  · replace H := cond_t hb2008 H
    refine run_seq ?_
    refine run_region rfl ?_
    refine ops_ex rfl (guard_none rfl) rfl rfl (ex_assign rfl rfl) ?_
    refine ops_nil ?_
    refine at_then ?_
    refine run_ret ?_
    refine at_then_ret ?_
    have hR := Option.some.inj H
    subst hR
    exact at_ret1 rfl rfl ⟨_, rfl, rfl, HM⟩
  · replace H := cond_f hb2008 H
    refine run_skip ?_
    refine at_then ?_
    obtain ⟨o2046, ho2047, H⟩ := bind_some H
    refine run_mid (fun ρ_ w_ => Sum.inr () = o2046 ∧ ρ_ = [] ∧ Mem w [] w_ []) ?_ ?_
    · skip
      refine run_seq ?_
      refine run_region rfl ?_
      refine ops_ex rfl (guard_none rfl) rfl rfl (ex_assign rfl rfl) ?_
      refine ops_nil ?_
      refine at_then ?_
      refine run_block ?_
      refine run_loop (fun k_ ρ_ w_ => ∃ a2060 : Int, laws_eqCoinS.l0 x0 x1 k_ a2060 = some o2046 ∧ ρ_ = [(0, p0), (1, p1), (5, .int .i64 a2060)] ∧ Mem w [] w_ []) k (ρ1 := [(0, p0), (1, p1), (5, .int .i64 0)]) ⟨_, ho2047, rfl, HM⟩ (Sub.cons rfl (Sub.cons rfl (Sub.cons rfl Sub.nil))) ?_
      clear HM ho2047
      rintro k2073 _ w2074 ⟨a2060, ho2047, rfl, HM⟩
      obtain _ | k2073 := k2073
      · exact nomatch ((laws_eqCoinS.l0_z x0 x1 a2060).symm.trans ho2047)
      replace ho2047 := (laws_eqCoinS.l0_s x0 x1 k2073 a2060).symm.trans ho2047
      refine run_seq ?_
      refine run_seq ?_
      refine run_region rfl ?_
      refine ops_ex rfl (guard_none rfl) rfl rfl (ex_move rfl rfl) ?_
      refine ops_ex rfl (guard_none rfl) rfl rfl (ex_move rfl rfl) ?_
      refine ops_ex rfl (guard_none rfl) rfl rfl (ex_len (d := kCoin) (xs := x0) rfl rfl Try.underlying25 hp0) ?_
      refine ops_ex rfl (guard_none rfl) rfl rfl (ex_lss rfl rfl rfl) ?_
      refine ops_nil ?_
      refine at_then ?_
      refine run_cond (b := (decide (a2060 < (x0.length : Int)))) rfl (fun hb2075 => ?_) (fun hb2075 => ?_)
      · replace ho2047 := cond_t hb2075 ho2047
        refine run_skip ?_
        refine at_then ?_
        refine run_seq ?_
        refine run_block ?_
        refine run_seq ?_
        obtain ⟨e2076, ho2047⟩ := chk_some ho2047
        obtain ⟨e2080, ho2047⟩ := chk_some ho2047
        obtain ⟨t2084, h2085, ho2047⟩ := bind_some ho2047
        refine run_drawf (fun w_ => Mem w [] w_ []) [(0, true), (1, true), (2, true), (3, true), (4, true), (5, true), (6, true), (7, true), (8, false), (9, true)] mixed rfl rfl (by kernel_rfl) ?_
        replace HM := HM.grow (fr_drew _)
        have hS := Mem.suf (M := []) HM
        refine drwp_take rfl (guard_none rfl) rfl rfl (fun w_ hS_ => (ex_move rfl rfl)) hS ?_
        refine drwp_take rfl (guard_none rfl) rfl rfl (fun w_ hS_ => (ex_move rfl rfl)) hS ?_
        obtain ⟨kv2078, hc2077, hk2079⟩ : ∃ u, CellsAt _ (sb p0) (so p0 + (a2060).toNat * 8) [(.int .i64 ((gt x0 a2060).fRef.fTx)), (.int .i64 ((gt x0 a2060).fRef.fAt)), (.int .i64 ((gt x0 a2060).fOut.fValue)), u, (.int .i64 ((gt x0 a2060).fOut.fRule.fNeed)), (.int .i64 ((gt x0 a2060).fOut.fRule.fAfter)), (.int .i64 ((gt x0 a2060).fHeight)), (.bool ((gt x0 a2060).fMined))] ∧ RdS kInt _ u ((gt x0 a2060).fOut.fRule.fKeys) := rd_with1 hp0 e2076
        refine drwp_take rfl (guard_none rfl) rfl rfl (fun w_ hS_ => (ex_indexAddr (d := kCoin) rfl rfl rfl Try.underlying25 tsz104 hp0 (idx_lo e2076) (idx_hi e2076))) hS ?_
        refine drwp_take rfl (guard_none rfl) rfl rfl (fun w_ hS_ => (ex_loadN (cs := [(.int .i64 ((gt x0 a2060).fRef.fTx)), (.int .i64 ((gt x0 a2060).fRef.fAt)), (.int .i64 ((gt x0 a2060).fOut.fValue)), kv2078, (.int .i64 ((gt x0 a2060).fOut.fRule.fNeed)), (.int .i64 ((gt x0 a2060).fOut.fRule.fAfter)), (.int .i64 ((gt x0 a2060).fHeight)), (.bool ((gt x0 a2060).fMined))]) rfl rfl Try.underlying104 rfl tsz104 rfl ((hS_.at_ hc2077).sub 0 8 rfl))) hS ?_
        refine drwp_take rfl (guard_none rfl) rfl rfl (fun w_ hS_ => (ex_move rfl rfl)) hS ?_
        refine drwp_take rfl (guard_none rfl) rfl rfl (fun w_ hS_ => (ex_move rfl rfl)) hS ?_
        obtain ⟨kv2082, hc2081, hk2083⟩ : ∃ u, CellsAt _ (sb p1) (so p1 + (a2060).toNat * 8) [(.int .i64 ((gt x1 a2060).fRef.fTx)), (.int .i64 ((gt x1 a2060).fRef.fAt)), (.int .i64 ((gt x1 a2060).fOut.fValue)), u, (.int .i64 ((gt x1 a2060).fOut.fRule.fNeed)), (.int .i64 ((gt x1 a2060).fOut.fRule.fAfter)), (.int .i64 ((gt x1 a2060).fHeight)), (.bool ((gt x1 a2060).fMined))] ∧ RdS kInt _ u ((gt x1 a2060).fOut.fRule.fKeys) := rd_with1 hp1 e2080
        refine drwp_take rfl (guard_none rfl) rfl rfl (fun w_ hS_ => (ex_indexAddr (d := kCoin) rfl rfl rfl Try.underlying25 tsz104 hp1 (idx_lo e2080) (idx_hi e2080))) hS ?_
        refine drwp_take rfl (guard_none rfl) rfl rfl (fun w_ hS_ => (ex_loadN (cs := [(.int .i64 ((gt x1 a2060).fRef.fTx)), (.int .i64 ((gt x1 a2060).fRef.fAt)), (.int .i64 ((gt x1 a2060).fOut.fValue)), kv2082, (.int .i64 ((gt x1 a2060).fOut.fRule.fNeed)), (.int .i64 ((gt x1 a2060).fOut.fRule.fAfter)), (.int .i64 ((gt x1 a2060).fHeight)), (.bool ((gt x1 a2060).fMined))]) rfl rfl Try.underlying104 rfl tsz104 rfl ((hS_.at_ hc2081).sub 0 8 rfl))) hS ?_
        refine drwp_one rfl (guard_none rfl) rfl rfl (does_callk rfl callok67 rfl (laws_eqCoin.calls (x0 := (gt x0 a2060)) (x1 := (gt x1 a2060)) (HM.rd hk2079) (HM.rd hk2083) h2085)) ?_
        rintro _ w2086 ⟨rfl, hn⟩
        replace HM : Mem w [] w2086 [] := HM.call hn
        refine ⟨Mem.suf (M := []) HM, ?_⟩
        have hS := Mem.suf (M := []) HM
        refine drwp_take rfl (guard_none rfl) rfl rfl (fun w_ hS_ => (ex_not rfl rfl)) hS ?_
        refine drwp_done ?_
        refine at_then ?_
        refine run_cond (b := !t2084) rfl (fun hb2087 => ?_) (fun hb2087 => ?_)
        · replace ho2047 := cond_t hb2087 ho2047
          refine run_seq ?_
          refine run_region rfl ?_
          refine ops_ex rfl (guard_none rfl) rfl rfl (ex_assign rfl rfl) ?_
          refine ops_nil ?_
          refine at_then ?_
          refine run_ret ?_
          refine at_block_ret ?_
          refine at_then_ret ?_
          refine at_then_ret ?_
          refine at_block_ret ?_
          refine at_then_ret ?_
          have hR := Option.some.inj ho2047
          subst hR
          have hT := thn_inl H
          have hR := Option.some.inj hT
          subst hR
          exact at_ret1 rfl rfl ⟨_, rfl, rfl, HM⟩
        · replace ho2047 := cond_f hb2087 ho2047
          refine run_skip ?_
          refine at_block ?_
          refine at_then ?_
          refine run_region rfl ?_
          refine ops_ex rfl (guard_none rfl) rfl rfl (ex_move rfl rfl) ?_
          refine ops_ex rfl (guard_none rfl) rfl rfl (ex_add rfl rfl rfl) ?_
          refine ops_ex rfl (guard_none rfl) rfl rfl (ex_assign rfl rfl) ?_
          refine ops_nil ?_
          exact at_again k2073 (ρ1 := [(0, p0), (1, p1), (5, .int .i64 (wrap64 (a2060 + 1)))]) (Nat.lt_succ_self _) ⟨_, ho2047, rfl, HM⟩ (Sub.cons rfl (Sub.cons rfl (Sub.cons rfl Sub.nil)))
      · replace ho2047 := cond_f hb2075 ho2047
        refine run_exit ?_
        refine at_then_exit ?_
        refine at_then_exit ?_
        refine at_block_exit ?_
        exact at_mid (ρ' := []) ⟨(Option.some.inj ho2047), rfl, HM⟩ Sub.nil
    · rintro _ w2088 ⟨rfl, rfl, HM⟩
      replace H := (thn_inr H)
      refine run_seq ?_
      refine run_region rfl ?_
      refine ops_ex rfl (guard_none rfl) rfl rfl (ex_assign rfl rfl) ?_
      refine ops_nil ?_
      refine at_then ?_
      refine run_ret ?_
      have hR := Option.some.inj H
      subst hR
      exact at_ret1 rfl rfl ⟨_, rfl, rfl, HM⟩

def laws_eqMember.f (k : Nat) (x0 : Member) (x1 : Member) : Option Bool := (bif (x0.fKey != x1.fKey) then some false else ((laws_eqRef.f k x0.fRef x1.fRef).bind fun t2123 => (bif !t2123 then some false else some true)))
theorem laws_eqMember.calls {k : Nat} {x0 : Member} {x1 : Member}  {w : World}  {r : Bool} (H : laws_eqMember.f k x0 x1 = some r) :
    Calls Try.prog 114 ([.agg #[(.int .i64 x0.fKey), (.int .i64 x0.fRef.fTx), (.int .i64 x0.fRef.fAt)], .agg #[(.int .i64 x1.fKey), (.int .i64 x1.fRef.fTx), (.int .i64 x1.fRef.fAt)]] : List Value).toArray w (fun e w_ => ∃ v, e = .returned v ∧ v = (.bool r) ∧ Mem w [] w_ []) := by
  have HM := Mem.start w
  refine calls_run (N := 16) Try.func114 rfl rfl rfl rfl ?_
  unfold laws_eqMember.f at H
  refine run_seq ?_
  refine run_region rfl ?_
  refine ops_does rfl (guard_none rfl) rfl rfl (does_box (cs := [.int .i64 x0.fKey, .int .i64 x0.fRef.fTx, .int .i64 x0.fRef.fAt]) rfl rfl rfl HM) ?_
  rintro _ w2119 ⟨b2113, rfl, HM⟩
  refine ops_does rfl (guard_none rfl) rfl rfl (does_box (cs := [.int .i64 x1.fKey, .int .i64 x1.fRef.fTx, .int .i64 x1.fRef.fAt]) rfl rfl rfl HM) ?_
  rintro _ w2120 ⟨b2116, rfl, HM⟩
  refine ops_ex rfl (guard_none rfl) rfl rfl (ex_assign rfl rfl) ?_
  refine ops_nil ?_
  refine at_then ?_
  refine run_seq ?_
  refine run_seq ?_
  refine run_region rfl ?_
  refine ops_ex rfl (guard_none rfl) rfl rfl (ex_fieldAddr (off' := 0) rfl rfl Try.underlying144 rfl tsz2 rfl) ?_
  refine ops_ex rfl (guard_none rfl) rfl rfl (ex_load1 rfl rfl Try.underlying2 rfl ((HM.box_at 1 rfl) 0 _ rfl)) ?_
  refine ops_ex rfl (guard_none rfl) rfl rfl (ex_fieldAddr (off' := 0) rfl rfl Try.underlying144 rfl tsz2 rfl) ?_
  refine ops_ex rfl (guard_none rfl) rfl rfl (ex_load1 rfl rfl Try.underlying2 rfl ((HM.box_at 0 rfl) 0 _ rfl)) ?_
  refine ops_ex rfl (guard_none rfl) rfl rfl (ex_neq rfl rfl rfl) ?_
  refine ops_nil ?_
  refine at_then ?_
  refine run_cond (b := (x0.fKey != x1.fKey)) rfl (fun hb2122 => ?_) (fun hb2122 => ?_)
  · replace H := cond_t hb2122 H
    refine run_seq ?_
    refine run_region rfl ?_
    refine ops_ex rfl (guard_none rfl) rfl rfl (ex_assign rfl rfl) ?_
    refine ops_nil ?_
    refine at_then ?_
    refine run_ret ?_
    refine at_then_ret ?_
    replace HM := (HM.front 0 rfl rfl).drop
    replace HM := (HM.front 0 rfl rfl).drop
    have hR := Option.some.inj H
    subst hR
    exact at_ret1 rfl rfl ⟨_, rfl, rfl, HM⟩
  · replace H := cond_f hb2122 H
    refine run_skip ?_
    refine at_then ?_
    refine run_seq ?_
    refine run_seq ?_
    obtain ⟨t2123, h2124, H⟩ := bind_some H
    refine run_region rfl ?_
    refine ops_ex rfl (guard_none rfl) rfl rfl (ex_fieldAddr (off' := 1) rfl rfl Try.underlying144 rfl tsz99 rfl) ?_
    refine ops_ex rfl (guard_none rfl) rfl rfl (ex_loadN (cs := [(.int .i64 x0.fRef.fTx), (.int .i64 x0.fRef.fAt)]) rfl rfl Try.underlying99 rfl tsz99 rfl ((HM.box_at 1 rfl).sub 1 2 rfl)) ?_
    refine ops_ex rfl (guard_none rfl) rfl rfl (ex_fieldAddr (off' := 1) rfl rfl Try.underlying144 rfl tsz99 rfl) ?_
    refine ops_ex rfl (guard_none rfl) rfl rfl (ex_loadN (cs := [(.int .i64 x1.fRef.fTx), (.int .i64 x1.fRef.fAt)]) rfl rfl Try.underlying99 rfl tsz99 rfl ((HM.box_at 0 rfl).sub 1 2 rfl)) ?_
    refine ops_does rfl (guard_none rfl) rfl rfl (does_callk rfl callok124 rfl (laws_eqRef.calls (x0 := x0.fRef) (x1 := x1.fRef) h2124)) ?_
    rintro _ w2125 ⟨rfl, hn⟩
    replace HM : Mem w [] w2125 [box b2116 144 [.int .i64 x1.fKey, .int .i64 x1.fRef.fTx, .int .i64 x1.fRef.fAt], box b2113 144 [.int .i64 x0.fKey, .int .i64 x0.fRef.fTx, .int .i64 x0.fRef.fAt]] := HM.call hn
    refine ops_ex rfl (guard_none rfl) rfl rfl (ex_not rfl rfl) ?_
    refine ops_nil ?_
    refine at_then ?_
    refine run_cond (b := !t2123) rfl (fun hb2126 => ?_) (fun hb2126 => ?_)
    · replace H := cond_t hb2126 H
      refine run_seq ?_
      refine run_region rfl ?_
      refine ops_ex rfl (guard_none rfl) rfl rfl (ex_assign rfl rfl) ?_
      refine ops_nil ?_
      refine at_then ?_
      refine run_ret ?_
      refine at_then_ret ?_
      replace HM := (HM.front 0 rfl rfl).drop
      replace HM := (HM.front 0 rfl rfl).drop
      have hR := Option.some.inj H
      subst hR
      exact at_ret1 rfl rfl ⟨_, rfl, rfl, HM⟩
    · replace H := cond_f hb2126 H
      refine run_skip ?_
      refine at_then ?_
      refine run_seq ?_
      refine run_region rfl ?_
      refine ops_ex rfl (guard_none rfl) rfl rfl (ex_assign rfl rfl) ?_
      refine ops_nil ?_
      refine at_then ?_
      refine run_ret ?_
      replace HM := (HM.front 0 rfl rfl).drop
      replace HM := (HM.front 0 rfl rfl).drop
      have hR := Option.some.inj H
      subst hR
      exact at_ret1 rfl rfl ⟨_, rfl, rfl, HM⟩

def laws_eqMemberS.l0 (x0 : List Member) (x1 : List Member) : Nat → Int → Option (Bool ⊕ Unit)
  | 0, _ => none
  | k + 1, a2186 => (bif (decide (a2186 < (x0.length : Int))) then (chk (idxOk a2186 x0.length) (chk (idxOk a2186 x1.length) ((laws_eqMember.f k (gt x0 a2186) (gt x1 a2186)).bind fun t2202 => (bif !t2202 then some (.inl false) else laws_eqMemberS.l0 x0 x1 k (wrap64 (a2186 + 1)))))) else some (.inr ()))
theorem laws_eqMemberS.l0_z (x0 : List Member) (x1 : List Member) (a2186 : Int) : laws_eqMemberS.l0 x0 x1 0 a2186 = none := rfl
theorem laws_eqMemberS.l0_s (x0 : List Member) (x1 : List Member) (k : Nat) (a2186 : Int) : laws_eqMemberS.l0 x0 x1 (k + 1) a2186 = (bif (decide (a2186 < (x0.length : Int))) then (chk (idxOk a2186 x0.length) (chk (idxOk a2186 x1.length) ((laws_eqMember.f k (gt x0 a2186) (gt x1 a2186)).bind fun t2202 => (bif !t2202 then some (.inl false) else laws_eqMemberS.l0 x0 x1 k (wrap64 (a2186 + 1)))))) else some (.inr ())) := rfl
def laws_eqMemberS.f (k : Nat) (x0 : List Member) (x1 : List Member) : Option Bool := (bif ((x0.length : Int) != (x1.length : Int)) then some false else ((laws_eqMemberS.l0 x0 x1 k 0).bind fun o2176 => thn o2176 (fun r => some r) (fun _ => some true)))
theorem laws_eqMemberS.calls {k : Nat} {x0 : List Member} {x1 : List Member} {p0 : Value} {p1 : Value} {w : World} (hp0 : RdS kMember w p0 x0) (hp1 : RdS kMember w p1 x1) {r : Bool} (H : laws_eqMemberS.f k x0 x1 = some r) :
    Calls Try.prog 53 ([p0, p1] : List Value).toArray w (fun e w_ => ∃ v, e = .returned v ∧ v = (.bool r) ∧ Mem w [] w_ []) := by
  have HM := Mem.start w
  refine calls_run (N := 27) Try.func53 rfl rfl rfl rfl ?_
  unfold laws_eqMemberS.f at H
  refine run_seq ?_
  refine run_region rfl ?_
  refine ops_ex rfl (guard_none rfl) rfl rfl (ex_assign rfl rfl) ?_
  refine ops_nil ?_
  refine at_then ?_
  refine run_seq ?_
  refine run_seq ?_
  refine run_region rfl ?_
  refine ops_ex rfl (guard_none rfl) rfl rfl (ex_move rfl rfl) ?_
  refine ops_ex rfl (guard_none rfl) rfl rfl (ex_len (d := kMember) (xs := x0) rfl rfl Try.underlying49 hp0) ?_
  refine ops_ex rfl (guard_none rfl) rfl rfl (ex_move rfl rfl) ?_
  refine ops_ex rfl (guard_none rfl) rfl rfl (ex_len (d := kMember) (xs := x1) rfl rfl Try.underlying49 hp1) ?_
  refine ops_ex rfl (guard_none rfl) rfl rfl (ex_neq rfl rfl rfl) ?_
  refine ops_nil ?_
  refine at_then ?_
  refine run_cond (b := ((x0.length : Int) != (x1.length : Int))) rfl (fun hb2150 => ?_) (fun hb2150 => ?_)
  · replace H := cond_t hb2150 H
    refine run_seq ?_
    refine run_region rfl ?_
    refine ops_ex rfl (guard_none rfl) rfl rfl (ex_assign rfl rfl) ?_
    refine ops_nil ?_
    refine at_then ?_
    refine run_ret ?_
    refine at_then_ret ?_
    have hR := Option.some.inj H
    subst hR
    exact at_ret1 rfl rfl ⟨_, rfl, rfl, HM⟩
  · replace H := cond_f hb2150 H
    refine run_skip ?_
    refine at_then ?_
    obtain ⟨o2176, ho2177, H⟩ := bind_some H
    refine run_mid (fun ρ_ w_ => Sum.inr () = o2176 ∧ ρ_ = [] ∧ Mem w [] w_ []) ?_ ?_
    · skip
      refine run_seq ?_
      refine run_region rfl ?_
      refine ops_ex rfl (guard_none rfl) rfl rfl (ex_assign rfl rfl) ?_
      refine ops_nil ?_
      refine at_then ?_
      refine run_block ?_
      refine run_loop (fun k_ ρ_ w_ => ∃ a2186 : Int, laws_eqMemberS.l0 x0 x1 k_ a2186 = some o2176 ∧ ρ_ = [(0, p0), (1, p1), (5, .int .i64 a2186)] ∧ Mem w [] w_ []) k (ρ1 := [(0, p0), (1, p1), (5, .int .i64 0)]) ⟨_, ho2177, rfl, HM⟩ (Sub.cons rfl (Sub.cons rfl (Sub.cons rfl Sub.nil))) ?_
      clear HM ho2177
      rintro k2195 _ w2196 ⟨a2186, ho2177, rfl, HM⟩
      obtain _ | k2195 := k2195
      · exact nomatch ((laws_eqMemberS.l0_z x0 x1 a2186).symm.trans ho2177)
      replace ho2177 := (laws_eqMemberS.l0_s x0 x1 k2195 a2186).symm.trans ho2177
      refine run_seq ?_
      refine run_seq ?_
      refine run_region rfl ?_
      refine ops_ex rfl (guard_none rfl) rfl rfl (ex_move rfl rfl) ?_
      refine ops_ex rfl (guard_none rfl) rfl rfl (ex_move rfl rfl) ?_
      refine ops_ex rfl (guard_none rfl) rfl rfl (ex_len (d := kMember) (xs := x0) rfl rfl Try.underlying49 hp0) ?_
      refine ops_ex rfl (guard_none rfl) rfl rfl (ex_lss rfl rfl rfl) ?_
      refine ops_nil ?_
      refine at_then ?_
      refine run_cond (b := (decide (a2186 < (x0.length : Int)))) rfl (fun hb2197 => ?_) (fun hb2197 => ?_)
      · replace ho2177 := cond_t hb2197 ho2177
        refine run_skip ?_
        refine at_then ?_
        refine run_seq ?_
        refine run_block ?_
        refine run_seq ?_
        obtain ⟨e2198, ho2177⟩ := chk_some ho2177
        obtain ⟨e2200, ho2177⟩ := chk_some ho2177
        obtain ⟨t2202, h2203, ho2177⟩ := bind_some ho2177
        refine run_drawf (fun w_ => Mem w [] w_ []) [(0, true), (1, true), (2, true), (3, true), (4, true), (5, true), (6, true), (7, true), (8, false), (9, true)] mixed rfl rfl (by kernel_rfl) ?_
        replace HM := HM.grow (fr_drew _)
        have hS := Mem.suf (M := []) HM
        refine drwp_take rfl (guard_none rfl) rfl rfl (fun w_ hS_ => (ex_move rfl rfl)) hS ?_
        refine drwp_take rfl (guard_none rfl) rfl rfl (fun w_ hS_ => (ex_move rfl rfl)) hS ?_
        have hc2199 : CellsAt _ (sb p0) (so p0 + (a2186).toNat * 3) [(.int .i64 ((gt x0 a2186).fKey)), (.int .i64 ((gt x0 a2186).fRef.fTx)), (.int .i64 ((gt x0 a2186).fRef.fAt))] := rd_plain hp0 e2198
        refine drwp_take rfl (guard_none rfl) rfl rfl (fun w_ hS_ => (ex_indexAddr (d := kMember) rfl rfl rfl Try.underlying49 tsz144 hp0 (idx_lo e2198) (idx_hi e2198))) hS ?_
        refine drwp_take rfl (guard_none rfl) rfl rfl (fun w_ hS_ => (ex_loadN (cs := [(.int .i64 ((gt x0 a2186).fKey)), (.int .i64 ((gt x0 a2186).fRef.fTx)), (.int .i64 ((gt x0 a2186).fRef.fAt))]) rfl rfl Try.underlying144 rfl tsz144 rfl ((hS_.at_ hc2199).sub 0 3 rfl))) hS ?_
        refine drwp_take rfl (guard_none rfl) rfl rfl (fun w_ hS_ => (ex_move rfl rfl)) hS ?_
        refine drwp_take rfl (guard_none rfl) rfl rfl (fun w_ hS_ => (ex_move rfl rfl)) hS ?_
        have hc2201 : CellsAt _ (sb p1) (so p1 + (a2186).toNat * 3) [(.int .i64 ((gt x1 a2186).fKey)), (.int .i64 ((gt x1 a2186).fRef.fTx)), (.int .i64 ((gt x1 a2186).fRef.fAt))] := rd_plain hp1 e2200
        refine drwp_take rfl (guard_none rfl) rfl rfl (fun w_ hS_ => (ex_indexAddr (d := kMember) rfl rfl rfl Try.underlying49 tsz144 hp1 (idx_lo e2200) (idx_hi e2200))) hS ?_
        refine drwp_take rfl (guard_none rfl) rfl rfl (fun w_ hS_ => (ex_loadN (cs := [(.int .i64 ((gt x1 a2186).fKey)), (.int .i64 ((gt x1 a2186).fRef.fTx)), (.int .i64 ((gt x1 a2186).fRef.fAt))]) rfl rfl Try.underlying144 rfl tsz144 rfl ((hS_.at_ hc2201).sub 0 3 rfl))) hS ?_
        refine drwp_one rfl (guard_none rfl) rfl rfl (does_callk rfl callok114 rfl (laws_eqMember.calls (x0 := (gt x0 a2186)) (x1 := (gt x1 a2186)) h2203)) ?_
        rintro _ w2204 ⟨rfl, hn⟩
        replace HM : Mem w [] w2204 [] := HM.call hn
        refine ⟨Mem.suf (M := []) HM, ?_⟩
        have hS := Mem.suf (M := []) HM
        refine drwp_take rfl (guard_none rfl) rfl rfl (fun w_ hS_ => (ex_not rfl rfl)) hS ?_
        refine drwp_done ?_
        refine at_then ?_
        refine run_cond (b := !t2202) rfl (fun hb2205 => ?_) (fun hb2205 => ?_)
        · replace ho2177 := cond_t hb2205 ho2177
          refine run_seq ?_
          refine run_region rfl ?_
          refine ops_ex rfl (guard_none rfl) rfl rfl (ex_assign rfl rfl) ?_
          refine ops_nil ?_
          refine at_then ?_
          refine run_ret ?_
          refine at_block_ret ?_
          refine at_then_ret ?_
          refine at_then_ret ?_
          refine at_block_ret ?_
          refine at_then_ret ?_
          have hR := Option.some.inj ho2177
          subst hR
          have hT := thn_inl H
          have hR := Option.some.inj hT
          subst hR
          exact at_ret1 rfl rfl ⟨_, rfl, rfl, HM⟩
        · replace ho2177 := cond_f hb2205 ho2177
          refine run_skip ?_
          refine at_block ?_
          refine at_then ?_
          refine run_region rfl ?_
          refine ops_ex rfl (guard_none rfl) rfl rfl (ex_move rfl rfl) ?_
          refine ops_ex rfl (guard_none rfl) rfl rfl (ex_add rfl rfl rfl) ?_
          refine ops_ex rfl (guard_none rfl) rfl rfl (ex_assign rfl rfl) ?_
          refine ops_nil ?_
          exact at_again k2195 (ρ1 := [(0, p0), (1, p1), (5, .int .i64 (wrap64 (a2186 + 1)))]) (Nat.lt_succ_self _) ⟨_, ho2177, rfl, HM⟩ (Sub.cons rfl (Sub.cons rfl (Sub.cons rfl Sub.nil)))
      · replace ho2177 := cond_f hb2197 ho2177
        refine run_exit ?_
        refine at_then_exit ?_
        refine at_then_exit ?_
        refine at_block_exit ?_
        exact at_mid (ρ' := []) ⟨(Option.some.inj ho2177), rfl, HM⟩ Sub.nil
    · rintro _ w2206 ⟨rfl, rfl, HM⟩
      replace H := (thn_inr H)
      refine run_seq ?_
      refine run_region rfl ?_
      refine ops_ex rfl (guard_none rfl) rfl rfl (ex_assign rfl rfl) ?_
      refine ops_nil ?_
      refine at_then ?_
      refine run_ret ?_
      have hR := Option.some.inj H
      subst hR
      exact at_ret1 rfl rfl ⟨_, rfl, rfl, HM⟩

def laws_eqState.f (k : Nat) (x0 : State) (x1 : State) : Option Bool := (bif (x0.fTip != x1.fTip) then some false else (bif (x0.fHeight != x1.fHeight) then some false else ((laws_eqCoinS.f k x0.fCoins x1.fCoins).bind fun t2225 => (bif !t2225 then some false else ((laws_eqMemberS.f k x0.fMembers x1.fMembers).bind fun t2229 => (bif !t2229 then some false else some true))))))
theorem laws_eqState.calls {k : Nat} {x0 : State} {x1 : State} {p0_0 : Value} {p0_1 : Value} {p1_0 : Value} {p1_1 : Value} {w : World} (hp0_0 : RdS kCoin w p0_0 x0.fCoins) (hp0_1 : RdS kMember w p0_1 x0.fMembers) (hp1_0 : RdS kCoin w p1_0 x1.fCoins) (hp1_1 : RdS kMember w p1_1 x1.fMembers) {r : Bool} (H : laws_eqState.f k x0 x1 = some r) :
    Calls Try.prog 33 ([.agg #[(.int .i64 x0.fTip), (.int .i64 x0.fHeight), p0_0, p0_1], .agg #[(.int .i64 x1.fTip), (.int .i64 x1.fHeight), p1_0, p1_1]] : List Value).toArray w (fun e w_ => ∃ v, e = .returned v ∧ v = (.bool r) ∧ Mem w [] w_ []) := by
  have HM := Mem.start w
  refine calls_run (N := 27) Try.func33 rfl rfl rfl rfl ?_
  unfold laws_eqState.f at H
  refine run_seq ?_
  refine run_region rfl ?_
  refine ops_does rfl (guard_none rfl) rfl rfl (does_box (cs := [.int .i64 x0.fTip, .int .i64 x0.fHeight, p0_0, p0_1]) rfl rfl rfl HM) ?_
  rintro _ w2216 ⟨b2210, rfl, HM⟩
  refine ops_does rfl (guard_none rfl) rfl rfl (does_box (cs := [.int .i64 x1.fTip, .int .i64 x1.fHeight, p1_0, p1_1]) rfl rfl rfl HM) ?_
  rintro _ w2217 ⟨b2213, rfl, HM⟩
  refine ops_ex rfl (guard_none rfl) rfl rfl (ex_assign rfl rfl) ?_
  refine ops_nil ?_
  refine at_then ?_
  refine run_seq ?_
  refine run_seq ?_
  refine run_region rfl ?_
  refine ops_ex rfl (guard_none rfl) rfl rfl (ex_fieldAddr (off' := 0) rfl rfl Try.underlying51 rfl tsz2 rfl) ?_
  refine ops_ex rfl (guard_none rfl) rfl rfl (ex_load1 rfl rfl Try.underlying2 rfl ((HM.box_at 1 rfl) 0 _ rfl)) ?_
  refine ops_ex rfl (guard_none rfl) rfl rfl (ex_fieldAddr (off' := 0) rfl rfl Try.underlying51 rfl tsz2 rfl) ?_
  refine ops_ex rfl (guard_none rfl) rfl rfl (ex_load1 rfl rfl Try.underlying2 rfl ((HM.box_at 0 rfl) 0 _ rfl)) ?_
  refine ops_ex rfl (guard_none rfl) rfl rfl (ex_neq rfl rfl rfl) ?_
  refine ops_nil ?_
  refine at_then ?_
  refine run_cond (b := (x0.fTip != x1.fTip)) rfl (fun hb2219 => ?_) (fun hb2219 => ?_)
  · replace H := cond_t hb2219 H
    refine run_seq ?_
    refine run_region rfl ?_
    refine ops_ex rfl (guard_none rfl) rfl rfl (ex_assign rfl rfl) ?_
    refine ops_nil ?_
    refine at_then ?_
    refine run_ret ?_
    refine at_then_ret ?_
    replace HM := (HM.front 0 rfl rfl).drop
    replace HM := (HM.front 0 rfl rfl).drop
    have hR := Option.some.inj H
    subst hR
    exact at_ret1 rfl rfl ⟨_, rfl, rfl, HM⟩
  · replace H := cond_f hb2219 H
    refine run_skip ?_
    refine at_then ?_
    refine run_seq ?_
    refine run_seq ?_
    refine run_region rfl ?_
    refine ops_ex rfl (guard_none rfl) rfl rfl (ex_fieldAddr (off' := 1) rfl rfl Try.underlying51 rfl tsz2 rfl) ?_
    refine ops_ex rfl (guard_none rfl) rfl rfl (ex_load1 rfl rfl Try.underlying2 rfl ((HM.box_at 1 rfl) 1 _ rfl)) ?_
    refine ops_ex rfl (guard_none rfl) rfl rfl (ex_fieldAddr (off' := 1) rfl rfl Try.underlying51 rfl tsz2 rfl) ?_
    refine ops_ex rfl (guard_none rfl) rfl rfl (ex_load1 rfl rfl Try.underlying2 rfl ((HM.box_at 0 rfl) 1 _ rfl)) ?_
    refine ops_ex rfl (guard_none rfl) rfl rfl (ex_neq rfl rfl rfl) ?_
    refine ops_nil ?_
    refine at_then ?_
    refine run_cond (b := (x0.fHeight != x1.fHeight)) rfl (fun hb2221 => ?_) (fun hb2221 => ?_)
    · replace H := cond_t hb2221 H
      refine run_seq ?_
      refine run_region rfl ?_
      refine ops_ex rfl (guard_none rfl) rfl rfl (ex_assign rfl rfl) ?_
      refine ops_nil ?_
      refine at_then ?_
      refine run_ret ?_
      refine at_then_ret ?_
      replace HM := (HM.front 0 rfl rfl).drop
      replace HM := (HM.front 0 rfl rfl).drop
      have hR := Option.some.inj H
      subst hR
      exact at_ret1 rfl rfl ⟨_, rfl, rfl, HM⟩
    · replace H := cond_f hb2221 H
      refine run_skip ?_
      refine at_then ?_
      refine run_seq ?_
      refine run_seq ?_
      obtain ⟨t2225, h2226, H⟩ := bind_some H
      refine run_region rfl ?_
      refine ops_ex rfl (guard_none rfl) rfl rfl (ex_fieldAddr (off' := 2) rfl rfl Try.underlying51 rfl tsz25 rfl) ?_
      refine ops_ex rfl (guard_none rfl) rfl rfl (ex_load1 rfl rfl Try.underlying25 rfl ((HM.box_at 1 rfl) 2 _ rfl)) ?_
      refine ops_ex rfl (guard_none rfl) rfl rfl (ex_fieldAddr (off' := 2) rfl rfl Try.underlying51 rfl tsz25 rfl) ?_
      refine ops_ex rfl (guard_none rfl) rfl rfl (ex_load1 rfl rfl Try.underlying25 rfl ((HM.box_at 0 rfl) 2 _ rfl)) ?_
      refine ops_does rfl (guard_none rfl) rfl rfl (does_callk rfl callok19 rfl (laws_eqCoinS.calls (x0 := x0.fCoins) (x1 := x1.fCoins) (HM.rd hp0_0) (HM.rd hp1_0) h2226)) ?_
      rintro _ w2227 ⟨rfl, hn⟩
      replace HM : Mem w [] w2227 [box b2213 51 [.int .i64 x1.fTip, .int .i64 x1.fHeight, p1_0, p1_1], box b2210 51 [.int .i64 x0.fTip, .int .i64 x0.fHeight, p0_0, p0_1]] := HM.call hn
      refine ops_ex rfl (guard_none rfl) rfl rfl (ex_not rfl rfl) ?_
      refine ops_nil ?_
      refine at_then ?_
      refine run_cond (b := !t2225) rfl (fun hb2228 => ?_) (fun hb2228 => ?_)
      · replace H := cond_t hb2228 H
        refine run_seq ?_
        refine run_region rfl ?_
        refine ops_ex rfl (guard_none rfl) rfl rfl (ex_assign rfl rfl) ?_
        refine ops_nil ?_
        refine at_then ?_
        refine run_ret ?_
        refine at_then_ret ?_
        replace HM := (HM.front 0 rfl rfl).drop
        replace HM := (HM.front 0 rfl rfl).drop
        have hR := Option.some.inj H
        subst hR
        exact at_ret1 rfl rfl ⟨_, rfl, rfl, HM⟩
      · replace H := cond_f hb2228 H
        refine run_skip ?_
        refine at_then ?_
        refine run_seq ?_
        refine run_seq ?_
        obtain ⟨t2229, h2230, H⟩ := bind_some H
        refine run_region rfl ?_
        refine ops_ex rfl (guard_none rfl) rfl rfl (ex_fieldAddr (off' := 3) rfl rfl Try.underlying51 rfl tsz49 rfl) ?_
        refine ops_ex rfl (guard_none rfl) rfl rfl (ex_load1 rfl rfl Try.underlying49 rfl ((HM.box_at 1 rfl) 3 _ rfl)) ?_
        refine ops_ex rfl (guard_none rfl) rfl rfl (ex_fieldAddr (off' := 3) rfl rfl Try.underlying51 rfl tsz49 rfl) ?_
        refine ops_ex rfl (guard_none rfl) rfl rfl (ex_load1 rfl rfl Try.underlying49 rfl ((HM.box_at 0 rfl) 3 _ rfl)) ?_
        refine ops_does rfl (guard_none rfl) rfl rfl (does_callk rfl callok53 rfl (laws_eqMemberS.calls (x0 := x0.fMembers) (x1 := x1.fMembers) (HM.rd hp0_1) (HM.rd hp1_1) h2230)) ?_
        rintro _ w2231 ⟨rfl, hn⟩
        replace HM : Mem w [] w2231 [box b2213 51 [.int .i64 x1.fTip, .int .i64 x1.fHeight, p1_0, p1_1], box b2210 51 [.int .i64 x0.fTip, .int .i64 x0.fHeight, p0_0, p0_1]] := HM.call hn
        refine ops_ex rfl (guard_none rfl) rfl rfl (ex_not rfl rfl) ?_
        refine ops_nil ?_
        refine at_then ?_
        refine run_cond (b := !t2229) rfl (fun hb2232 => ?_) (fun hb2232 => ?_)
        · replace H := cond_t hb2232 H
          refine run_seq ?_
          refine run_region rfl ?_
          refine ops_ex rfl (guard_none rfl) rfl rfl (ex_assign rfl rfl) ?_
          refine ops_nil ?_
          refine at_then ?_
          refine run_ret ?_
          refine at_then_ret ?_
          replace HM := (HM.front 0 rfl rfl).drop
          replace HM := (HM.front 0 rfl rfl).drop
          have hR := Option.some.inj H
          subst hR
          exact at_ret1 rfl rfl ⟨_, rfl, rfl, HM⟩
        · replace H := cond_f hb2232 H
          refine run_skip ?_
          refine at_then ?_
          refine run_seq ?_
          refine run_region rfl ?_
          refine ops_ex rfl (guard_none rfl) rfl rfl (ex_assign rfl rfl) ?_
          refine ops_nil ?_
          refine at_then ?_
          refine run_ret ?_
          replace HM := (HM.front 0 rfl rfl).drop
          replace HM := (HM.front 0 rfl rfl).drop
          have hR := Option.some.inj H
          subst hR
          exact at_ret1 rfl rfl ⟨_, rfl, rfl, HM⟩

def laws_FnExactSameStates.f (k : Nat) (x0 : State) (x1 : State) : Option Bool := ((laws_szState.f k x0 1048576).bind fun t2262 => (bif (decide (t2262 < 0)) then some true else ((laws_szState.f k x1 t2262).bind fun t2267 => (bif (decide (t2267 < 0)) then some true else ((laws_toState.f k x0).bind fun t2272 => ((laws_toState.f k x1).bind fun t2278 => ((spec_SameStates.f k t2272 t2278).bind fun t2284 => ((laws_toState.f k x0).bind fun t2289 => ((laws_toState.f k x1).bind fun t2301 => ((impl_SameStates.f k t2289 t2301).bind fun t2313 => (bif (t2313 != t2284) then some false else ((laws_toState.f k x0).bind fun t2327 => ((laws_eqState.f k t2289 t2327).bind fun t2333 => (bif !t2333 then some false else ((laws_toState.f k x1).bind fun t2338 => ((laws_eqState.f k t2301 t2338).bind fun t2344 => (bif !t2344 then some false else some true)))))))))))))))))
theorem laws_FnExactSameStates.calls {k : Nat} {x0 : State} {x1 : State} {p0_0 : Value} {p0_1 : Value} {p1_0 : Value} {p1_1 : Value} {w : World} (hp0_0 : RdS kCoin w p0_0 x0.fCoins) (hp0_1 : RdS kMember w p0_1 x0.fMembers) (hp1_0 : RdS kCoin w p1_0 x1.fCoins) (hp1_1 : RdS kMember w p1_1 x1.fMembers) {r : Bool} (H : laws_FnExactSameStates.f k x0 x1 = some r) :
    Calls Try.prog 7 ([.agg #[(.int .i64 x0.fTip), (.int .i64 x0.fHeight), p0_0, p0_1], .agg #[(.int .i64 x1.fTip), (.int .i64 x1.fHeight), p1_0, p1_1]] : List Value).toArray w (fun e w_ => ∃ v, e = .returned v ∧ v = (.bool r) ∧ Mem w [] w_ []) := by
  have HM := Mem.start w
  refine calls_run (N := 45) Try.func7 rfl rfl rfl rfl ?_
  unfold laws_FnExactSameStates.f at H
  refine run_seq ?_
  refine run_region rfl ?_
  refine ops_does rfl (guard_none rfl) rfl rfl (does_box (cs := [.int .i64 x0.fTip, .int .i64 x0.fHeight, p0_0, p0_1]) rfl rfl rfl HM) ?_
  rintro _ w2260 ⟨b2254, rfl, HM⟩
  refine ops_does rfl (guard_none rfl) rfl rfl (does_box (cs := [.int .i64 x1.fTip, .int .i64 x1.fHeight, p1_0, p1_1]) rfl rfl rfl HM) ?_
  rintro _ w2261 ⟨b2257, rfl, HM⟩
  refine ops_ex rfl (guard_none rfl) rfl rfl (ex_assign rfl rfl) ?_
  refine ops_nil ?_
  refine at_then ?_
  refine run_seq ?_
  refine run_region rfl ?_
  refine ops_ex rfl (guard_none rfl) rfl rfl (ex_assign rfl rfl) ?_
  refine ops_nil ?_
  refine at_then ?_
  refine run_seq ?_
  obtain ⟨t2262, h2263, H⟩ := bind_some H
  refine run_region rfl ?_
  refine ops_ex rfl (guard_none rfl) rfl rfl (ex_loadN (cs := [(.int .i64 x0.fTip), (.int .i64 x0.fHeight), p0_0, p0_1]) rfl rfl Try.underlying46 rfl tsz46 rfl ((HM.box_at 1 rfl).sub 0 4 rfl)) ?_
  refine ops_ex rfl (guard_none rfl) rfl rfl (ex_move rfl rfl) ?_
  refine ops_does rfl (guard_none rfl) rfl rfl (does_callk rfl callok29 rfl (laws_szState.calls (x0 := x0) (x1 := 1048576) (HM.rd hp0_0) (HM.rd hp0_1) h2263)) ?_
  rintro _ w2264 ⟨rfl, hn⟩
  replace HM : Mem w [] w2264 [box b2257 46 [.int .i64 x1.fTip, .int .i64 x1.fHeight, p1_0, p1_1], box b2254 46 [.int .i64 x0.fTip, .int .i64 x0.fHeight, p0_0, p0_1]] := HM.call hn
  refine ops_ex rfl (guard_none rfl) rfl rfl (ex_assign rfl rfl) ?_
  refine ops_nil ?_
  refine at_then ?_
  refine run_seq ?_
  refine run_seq ?_
  refine run_region rfl ?_
  refine ops_ex rfl (guard_none rfl) rfl rfl (ex_move rfl rfl) ?_
  refine ops_ex rfl (guard_none rfl) rfl rfl (ex_lss rfl rfl rfl) ?_
  refine ops_nil ?_
  refine at_then ?_
  refine run_cond (b := (decide (t2262 < 0))) rfl (fun hb2266 => ?_) (fun hb2266 => ?_)
  · replace H := cond_t hb2266 H
    refine run_seq ?_
    refine run_region rfl ?_
    refine ops_ex rfl (guard_none rfl) rfl rfl (ex_assign rfl rfl) ?_
    refine ops_nil ?_
    refine at_then ?_
    refine run_ret ?_
    refine at_then_ret ?_
    replace HM := (HM.front 0 rfl rfl).drop
    replace HM := (HM.front 0 rfl rfl).drop
    have hR := Option.some.inj H
    subst hR
    exact at_ret1 rfl rfl ⟨_, rfl, rfl, HM⟩
  · replace H := cond_f hb2266 H
    refine run_skip ?_
    refine at_then ?_
    refine run_seq ?_
    obtain ⟨t2267, h2268, H⟩ := bind_some H
    refine run_region rfl ?_
    refine ops_ex rfl (guard_none rfl) rfl rfl (ex_loadN (cs := [(.int .i64 x1.fTip), (.int .i64 x1.fHeight), p1_0, p1_1]) rfl rfl Try.underlying46 rfl tsz46 rfl ((HM.box_at 0 rfl).sub 0 4 rfl)) ?_
    refine ops_ex rfl (guard_none rfl) rfl rfl (ex_move rfl rfl) ?_
    refine ops_does rfl (guard_none rfl) rfl rfl (does_callk rfl callok29 rfl (laws_szState.calls (x0 := x1) (x1 := t2262) (HM.rd hp1_0) (HM.rd hp1_1) h2268)) ?_
    rintro _ w2269 ⟨rfl, hn⟩
    replace HM : Mem w [] w2269 [box b2257 46 [.int .i64 x1.fTip, .int .i64 x1.fHeight, p1_0, p1_1], box b2254 46 [.int .i64 x0.fTip, .int .i64 x0.fHeight, p0_0, p0_1]] := HM.call hn
    refine ops_ex rfl (guard_none rfl) rfl rfl (ex_assign rfl rfl) ?_
    refine ops_nil ?_
    refine at_then ?_
    refine run_seq ?_
    refine run_seq ?_
    refine run_region rfl ?_
    refine ops_ex rfl (guard_none rfl) rfl rfl (ex_move rfl rfl) ?_
    refine ops_ex rfl (guard_none rfl) rfl rfl (ex_lss rfl rfl rfl) ?_
    refine ops_nil ?_
    refine at_then ?_
    refine run_cond (b := (decide (t2267 < 0))) rfl (fun hb2271 => ?_) (fun hb2271 => ?_)
    · replace H := cond_t hb2271 H
      refine run_seq ?_
      refine run_region rfl ?_
      refine ops_ex rfl (guard_none rfl) rfl rfl (ex_assign rfl rfl) ?_
      refine ops_nil ?_
      refine at_then ?_
      refine run_ret ?_
      refine at_then_ret ?_
      replace HM := (HM.front 0 rfl rfl).drop
      replace HM := (HM.front 0 rfl rfl).drop
      have hR := Option.some.inj H
      subst hR
      exact at_ret1 rfl rfl ⟨_, rfl, rfl, HM⟩
    · replace H := cond_f hb2271 H
      refine run_skip ?_
      refine at_then ?_
      refine run_seq ?_
      obtain ⟨t2272, h2273, H⟩ := bind_some H
      obtain ⟨t2278, h2279, H⟩ := bind_some H
      obtain ⟨t2284, h2285, H⟩ := bind_some H
      refine run_drawf (fun w_ => Mem w [] w_ [box b2257 46 [.int .i64 x1.fTip, .int .i64 x1.fHeight, p1_0, p1_1], box b2254 46 [.int .i64 x0.fTip, .int .i64 x0.fHeight, p0_0, p0_1]]) [(0, true), (2, true), (1, false), (3, false), (4, false), (5, true)] mixed rfl rfl (by kernel_rfl) ?_
      replace HM := HM.grow (fr_drew _)
      have hS := Mem.suf (M := []) HM
      refine drwp_take rfl (guard_none rfl) rfl rfl (fun w_ hS_ => (ex_loadN (cs := [(.int .i64 x0.fTip), (.int .i64 x0.fHeight), p0_0, p0_1]) rfl rfl Try.underlying46 rfl tsz46 rfl ((hS_.box_at 1 rfl).sub 0 4 rfl))) hS ?_
      refine drwp_take rfl (guard_none rfl) rfl rfl (fun w_ hS_ => (ex_loadN (cs := [(.int .i64 x1.fTip), (.int .i64 x1.fHeight), p1_0, p1_1]) rfl rfl Try.underlying46 rfl tsz46 rfl ((hS_.box_at 0 rfl).sub 0 4 rfl))) hS ?_
      refine drwp_one rfl (guard_none rfl) rfl rfl (does_callk rfl callok31 rfl (laws_toState.calls (x0 := x0) (HM.rd hp0_0) (HM.rd hp0_1) h2273)) ?_
      rintro _ w2286 ⟨u2274, u2276, rfl, hn⟩
      replace HM : Mem w [] w2286 [own kCoin 104 u2274 t2272.fCoins, own kMember 144 u2276 t2272.fMembers, box b2257 46 [.int .i64 x1.fTip, .int .i64 x1.fHeight, p1_0, p1_1], box b2254 46 [.int .i64 x0.fTip, .int .i64 x0.fHeight, p0_0, p0_1]] := HM.call hn
      refine ⟨Mem.suf (M := [own kCoin 104 u2274 t2272.fCoins, own kMember 144 u2276 t2272.fMembers]) HM, ?_⟩
      have hS := Mem.suf (M := [own kCoin 104 u2274 t2272.fCoins, own kMember 144 u2276 t2272.fMembers]) HM
      refine drwp_one rfl (guard_none rfl) rfl rfl (does_callk rfl callok31 rfl (laws_toState.calls (x0 := x1) (HM.rd hp1_0) (HM.rd hp1_1) h2279)) ?_
      rintro _ w2287 ⟨u2280, u2282, rfl, hn⟩
      replace HM : Mem w [] w2287 [own kCoin 104 u2280 t2278.fCoins, own kMember 144 u2282 t2278.fMembers, own kCoin 104 u2274 t2272.fCoins, own kMember 144 u2276 t2272.fMembers, box b2257 46 [.int .i64 x1.fTip, .int .i64 x1.fHeight, p1_0, p1_1], box b2254 46 [.int .i64 x0.fTip, .int .i64 x0.fHeight, p0_0, p0_1]] := HM.call hn
      refine ⟨Mem.suf (M := [own kCoin 104 u2280 t2278.fCoins, own kMember 144 u2282 t2278.fMembers, own kCoin 104 u2274 t2272.fCoins, own kMember 144 u2276 t2272.fMembers]) HM, ?_⟩
      have hS := Mem.suf (M := [own kCoin 104 u2280 t2278.fCoins, own kMember 144 u2282 t2278.fMembers, own kCoin 104 u2274 t2272.fCoins, own kMember 144 u2276 t2272.fMembers]) HM
      refine drwp_one rfl (guard_none rfl) rfl rfl (does_callk rfl callok30 rfl (spec_SameStates.calls (x0 := t2272) (x1 := t2278) (HM.own_rd 2 rfl) (HM.own_rd 3 rfl) (HM.own_rd 0 rfl) (HM.own_rd 1 rfl) h2285)) ?_
      rintro _ w2288 ⟨rfl, hn⟩
      replace HM : Mem w [] w2288 [own kCoin 104 u2280 t2278.fCoins, own kMember 144 u2282 t2278.fMembers, own kCoin 104 u2274 t2272.fCoins, own kMember 144 u2276 t2272.fMembers, box b2257 46 [.int .i64 x1.fTip, .int .i64 x1.fHeight, p1_0, p1_1], box b2254 46 [.int .i64 x0.fTip, .int .i64 x0.fHeight, p0_0, p0_1]] := HM.call hn
      refine ⟨Mem.suf (M := [own kCoin 104 u2280 t2278.fCoins, own kMember 144 u2282 t2278.fMembers, own kCoin 104 u2274 t2272.fCoins, own kMember 144 u2276 t2272.fMembers]) HM, ?_⟩
      have hS := Mem.suf (M := [own kCoin 104 u2280 t2278.fCoins, own kMember 144 u2282 t2278.fMembers, own kCoin 104 u2274 t2272.fCoins, own kMember 144 u2276 t2272.fMembers]) HM
      refine drwp_take rfl (guard_none rfl) rfl rfl (fun w_ hS_ => (ex_assign rfl rfl)) hS ?_
      refine drwp_done ?_
      refine at_then ?_
      refine run_seq ?_
      obtain ⟨t2289, h2290, H⟩ := bind_some H
      refine run_region rfl ?_
      refine ops_ex rfl (guard_none rfl) rfl rfl (ex_loadN (cs := [(.int .i64 x0.fTip), (.int .i64 x0.fHeight), p0_0, p0_1]) rfl rfl Try.underlying46 rfl tsz46 rfl ((HM.box_at 5 rfl).sub 0 4 rfl)) ?_
      refine ops_does rfl (guard_none rfl) rfl rfl (does_callk rfl callok31 rfl (laws_toState.calls (x0 := x0) (HM.rd hp0_0) (HM.rd hp0_1) h2290)) ?_
      rintro _ w2298 ⟨u2291, u2293, rfl, hn⟩
      replace HM : Mem w [] w2298 [own kCoin 104 u2291 t2289.fCoins, own kMember 144 u2293 t2289.fMembers, own kCoin 104 u2280 t2278.fCoins, own kMember 144 u2282 t2278.fMembers, own kCoin 104 u2274 t2272.fCoins, own kMember 144 u2276 t2272.fMembers, box b2257 46 [.int .i64 x1.fTip, .int .i64 x1.fHeight, p1_0, p1_1], box b2254 46 [.int .i64 x0.fTip, .int .i64 x0.fHeight, p0_0, p0_1]] := HM.call hn
      refine ops_does rfl (guard_none rfl) rfl rfl (does_alloc (cs := [.int .i64 0, .int .i64 0, .slice none 0 0, .slice none 0 0]) rfl tz51 rfl HM) ?_
      rintro _ w2299 ⟨b2295, rfl, HM⟩
      refine ops_doesS rfl (guard_none rfl) rfl (does_store (vs := [.int .i64 t2289.fTip, .int .i64 t2289.fHeight, u2291, u2293]) (cs' := [.int .i64 t2289.fTip, .int .i64 t2289.fHeight, u2291, u2293]) rfl rfl rfl rfl tsz51 (Ones.int (Ones.int (Ones.rd (HM.own_rd 1 rfl) (Ones.rd (HM.own_rd 2 rfl) Ones.nil)))) rfl rfl HM) ?_
      rintro w2300 HM
      refine ops_nil ?_
      refine at_then ?_
      refine run_seq ?_
      obtain ⟨t2301, h2302, H⟩ := bind_some H
      refine run_region rfl ?_
      refine ops_ex rfl (guard_none rfl) rfl rfl (ex_loadN (cs := [(.int .i64 x1.fTip), (.int .i64 x1.fHeight), p1_0, p1_1]) rfl rfl Try.underlying46 rfl tsz46 rfl ((HM.box_at 7 rfl).sub 0 4 rfl)) ?_
      refine ops_does rfl (guard_none rfl) rfl rfl (does_callk rfl callok31 rfl (laws_toState.calls (x0 := x1) (HM.rd hp1_0) (HM.rd hp1_1) h2302)) ?_
      rintro _ w2310 ⟨u2303, u2305, rfl, hn⟩
      replace HM : Mem w [] w2310 [own kCoin 104 u2303 t2301.fCoins, own kMember 144 u2305 t2301.fMembers, box b2295 51 [.int .i64 t2289.fTip, .int .i64 t2289.fHeight, u2291, u2293], own kCoin 104 u2291 t2289.fCoins, own kMember 144 u2293 t2289.fMembers, own kCoin 104 u2280 t2278.fCoins, own kMember 144 u2282 t2278.fMembers, own kCoin 104 u2274 t2272.fCoins, own kMember 144 u2276 t2272.fMembers, box b2257 46 [.int .i64 x1.fTip, .int .i64 x1.fHeight, p1_0, p1_1], box b2254 46 [.int .i64 x0.fTip, .int .i64 x0.fHeight, p0_0, p0_1]] := HM.call hn
      refine ops_does rfl (guard_none rfl) rfl rfl (does_alloc (cs := [.int .i64 0, .int .i64 0, .slice none 0 0, .slice none 0 0]) rfl tz51 rfl HM) ?_
      rintro _ w2311 ⟨b2307, rfl, HM⟩
      refine ops_doesS rfl (guard_none rfl) rfl (does_store (vs := [.int .i64 t2301.fTip, .int .i64 t2301.fHeight, u2303, u2305]) (cs' := [.int .i64 t2301.fTip, .int .i64 t2301.fHeight, u2303, u2305]) rfl rfl rfl rfl tsz51 (Ones.int (Ones.int (Ones.rd (HM.own_rd 1 rfl) (Ones.rd (HM.own_rd 2 rfl) Ones.nil)))) rfl rfl HM) ?_
      rintro w2312 HM
      refine ops_nil ?_
      refine at_then ?_
      refine run_seq ?_
      obtain ⟨t2313, h2314, H⟩ := bind_some H
      refine run_region rfl ?_
      refine ops_ex rfl (guard_none rfl) rfl rfl (ex_loadN (cs := [(.int .i64 t2289.fTip), (.int .i64 t2289.fHeight), u2291, u2293]) rfl rfl Try.underlying51 rfl tsz51 rfl ((HM.box_at 3 rfl).sub 0 4 rfl)) ?_
      refine ops_ex rfl (guard_none rfl) rfl rfl (ex_loadN (cs := [(.int .i64 t2301.fTip), (.int .i64 t2301.fHeight), u2303, u2305]) rfl rfl Try.underlying51 rfl tsz51 rfl ((HM.box_at 0 rfl).sub 0 4 rfl)) ?_
      refine ops_does rfl (guard_none rfl) rfl rfl (does_callk rfl callok32 rfl (impl_SameStates.calls (x0 := t2289) (x1 := t2301) (HM.own_rd 4 rfl) (HM.own_rd 5 rfl) (HM.own_rd 1 rfl) (HM.own_rd 2 rfl) h2314)) ?_
      rintro _ w2315 ⟨rfl, hn⟩
      replace HM : Mem w [] w2315 [box b2307 51 [.int .i64 t2301.fTip, .int .i64 t2301.fHeight, u2303, u2305], own kCoin 104 u2303 t2301.fCoins, own kMember 144 u2305 t2301.fMembers, box b2295 51 [.int .i64 t2289.fTip, .int .i64 t2289.fHeight, u2291, u2293], own kCoin 104 u2291 t2289.fCoins, own kMember 144 u2293 t2289.fMembers, own kCoin 104 u2280 t2278.fCoins, own kMember 144 u2282 t2278.fMembers, own kCoin 104 u2274 t2272.fCoins, own kMember 144 u2276 t2272.fMembers, box b2257 46 [.int .i64 x1.fTip, .int .i64 x1.fHeight, p1_0, p1_1], box b2254 46 [.int .i64 x0.fTip, .int .i64 x0.fHeight, p0_0, p0_1]] := HM.call hn
      refine ops_ex rfl (guard_none rfl) rfl rfl (ex_assign rfl rfl) ?_
      refine ops_nil ?_
      refine at_then ?_
      refine run_seq ?_
      refine run_seq ?_
      refine run_region rfl ?_
      refine ops_ex rfl (guard_none rfl) rfl rfl (ex_move rfl rfl) ?_
      refine ops_ex rfl (guard_none rfl) rfl rfl (ex_move rfl rfl) ?_
      refine ops_ex rfl (guard_none rfl) rfl rfl (ex_bneq rfl rfl rfl Try.underlying4) ?_
      refine ops_nil ?_
      refine at_then ?_
      refine run_cond (b := (t2313 != t2284)) rfl (fun hb2317 => ?_) (fun hb2317 => ?_)
      · replace H := cond_t hb2317 H
        refine run_seq ?_
        refine run_region rfl ?_
        refine ops_ex rfl (guard_none rfl) rfl rfl (ex_assign rfl rfl) ?_
        refine ops_nil ?_
        refine at_then ?_
        refine run_ret ?_
        refine at_then_ret ?_
        replace HM := (HM.front 0 rfl rfl).drop
        replace HM := (HM.front 0 rfl rfl).drop
        replace HM := (HM.front 0 rfl rfl).drop
        replace HM := (HM.front 0 rfl rfl).drop
        replace HM := (HM.front 0 rfl rfl).drop
        replace HM := (HM.front 0 rfl rfl).drop
        replace HM := (HM.front 0 rfl rfl).drop
        replace HM := (HM.front 0 rfl rfl).drop
        replace HM := (HM.front 0 rfl rfl).drop
        replace HM := (HM.front 0 rfl rfl).drop
        replace HM := (HM.front 0 rfl rfl).drop
        replace HM := (HM.front 0 rfl rfl).drop
        have hR := Option.some.inj H
        subst hR
        exact at_ret1 rfl rfl ⟨_, rfl, rfl, HM⟩
      · replace H := cond_f hb2317 H
        refine run_skip ?_
        refine at_then ?_
        refine run_seq ?_
        refine run_seq ?_
        obtain ⟨t2327, h2328, H⟩ := bind_some H
        obtain ⟨t2333, h2334, H⟩ := bind_some H
        refine run_drawf (fun w_ => Mem w [] w_ [box b2307 51 [.int .i64 t2301.fTip, .int .i64 t2301.fHeight, u2303, u2305], own kCoin 104 u2303 t2301.fCoins, own kMember 144 u2305 t2301.fMembers, box b2295 51 [.int .i64 t2289.fTip, .int .i64 t2289.fHeight, u2291, u2293], own kCoin 104 u2291 t2289.fCoins, own kMember 144 u2293 t2289.fMembers, own kCoin 104 u2280 t2278.fCoins, own kMember 144 u2282 t2278.fMembers, own kCoin 104 u2274 t2272.fCoins, own kMember 144 u2276 t2272.fMembers, box b2257 46 [.int .i64 x1.fTip, .int .i64 x1.fHeight, p1_0, p1_1], box b2254 46 [.int .i64 x0.fTip, .int .i64 x0.fHeight, p0_0, p0_1]]) [(0, true), (1, true), (2, false), (3, false), (4, true)] mixed rfl rfl (by kernel_rfl) ?_
        replace HM := HM.grow (fr_drew _)
        have hS := Mem.suf (M := []) HM
        refine drwp_take rfl (guard_none rfl) rfl rfl (fun w_ hS_ => (ex_loadN (cs := [(.int .i64 t2289.fTip), (.int .i64 t2289.fHeight), u2291, u2293]) rfl rfl Try.underlying51 rfl tsz51 rfl ((hS_.box_at 3 rfl).sub 0 4 rfl))) hS ?_
        refine drwp_take rfl (guard_none rfl) rfl rfl (fun w_ hS_ => (ex_loadN (cs := [(.int .i64 x0.fTip), (.int .i64 x0.fHeight), p0_0, p0_1]) rfl rfl Try.underlying46 rfl tsz46 rfl ((hS_.box_at 11 rfl).sub 0 4 rfl))) hS ?_
        refine drwp_one rfl (guard_none rfl) rfl rfl (does_callk rfl callok31 rfl (laws_toState.calls (x0 := x0) (HM.rd hp0_0) (HM.rd hp0_1) h2328)) ?_
        rintro _ w2335 ⟨u2329, u2331, rfl, hn⟩
        replace HM : Mem w [] w2335 [own kCoin 104 u2329 t2327.fCoins, own kMember 144 u2331 t2327.fMembers, box b2307 51 [.int .i64 t2301.fTip, .int .i64 t2301.fHeight, u2303, u2305], own kCoin 104 u2303 t2301.fCoins, own kMember 144 u2305 t2301.fMembers, box b2295 51 [.int .i64 t2289.fTip, .int .i64 t2289.fHeight, u2291, u2293], own kCoin 104 u2291 t2289.fCoins, own kMember 144 u2293 t2289.fMembers, own kCoin 104 u2280 t2278.fCoins, own kMember 144 u2282 t2278.fMembers, own kCoin 104 u2274 t2272.fCoins, own kMember 144 u2276 t2272.fMembers, box b2257 46 [.int .i64 x1.fTip, .int .i64 x1.fHeight, p1_0, p1_1], box b2254 46 [.int .i64 x0.fTip, .int .i64 x0.fHeight, p0_0, p0_1]] := HM.call hn
        refine ⟨Mem.suf (M := [own kCoin 104 u2329 t2327.fCoins, own kMember 144 u2331 t2327.fMembers]) HM, ?_⟩
        have hS := Mem.suf (M := [own kCoin 104 u2329 t2327.fCoins, own kMember 144 u2331 t2327.fMembers]) HM
        refine drwp_one rfl (guard_none rfl) rfl rfl (does_callk rfl callok33 rfl (laws_eqState.calls (x0 := t2289) (x1 := t2327) (HM.own_rd 6 rfl) (HM.own_rd 7 rfl) (HM.own_rd 0 rfl) (HM.own_rd 1 rfl) h2334)) ?_
        rintro _ w2336 ⟨rfl, hn⟩
        replace HM : Mem w [] w2336 [own kCoin 104 u2329 t2327.fCoins, own kMember 144 u2331 t2327.fMembers, box b2307 51 [.int .i64 t2301.fTip, .int .i64 t2301.fHeight, u2303, u2305], own kCoin 104 u2303 t2301.fCoins, own kMember 144 u2305 t2301.fMembers, box b2295 51 [.int .i64 t2289.fTip, .int .i64 t2289.fHeight, u2291, u2293], own kCoin 104 u2291 t2289.fCoins, own kMember 144 u2293 t2289.fMembers, own kCoin 104 u2280 t2278.fCoins, own kMember 144 u2282 t2278.fMembers, own kCoin 104 u2274 t2272.fCoins, own kMember 144 u2276 t2272.fMembers, box b2257 46 [.int .i64 x1.fTip, .int .i64 x1.fHeight, p1_0, p1_1], box b2254 46 [.int .i64 x0.fTip, .int .i64 x0.fHeight, p0_0, p0_1]] := HM.call hn
        refine ⟨Mem.suf (M := [own kCoin 104 u2329 t2327.fCoins, own kMember 144 u2331 t2327.fMembers]) HM, ?_⟩
        have hS := Mem.suf (M := [own kCoin 104 u2329 t2327.fCoins, own kMember 144 u2331 t2327.fMembers]) HM
        refine drwp_take rfl (guard_none rfl) rfl rfl (fun w_ hS_ => (ex_not rfl rfl)) hS ?_
        refine drwp_done ?_
        refine at_then ?_
        refine run_cond (b := !t2333) rfl (fun hb2337 => ?_) (fun hb2337 => ?_)
        · replace H := cond_t hb2337 H
          refine run_seq ?_
          refine run_region rfl ?_
          refine ops_ex rfl (guard_none rfl) rfl rfl (ex_assign rfl rfl) ?_
          refine ops_nil ?_
          refine at_then ?_
          refine run_ret ?_
          refine at_then_ret ?_
          replace HM := (HM.front 0 rfl rfl).drop
          replace HM := (HM.front 0 rfl rfl).drop
          replace HM := (HM.front 0 rfl rfl).drop
          replace HM := (HM.front 0 rfl rfl).drop
          replace HM := (HM.front 0 rfl rfl).drop
          replace HM := (HM.front 0 rfl rfl).drop
          replace HM := (HM.front 0 rfl rfl).drop
          replace HM := (HM.front 0 rfl rfl).drop
          replace HM := (HM.front 0 rfl rfl).drop
          replace HM := (HM.front 0 rfl rfl).drop
          replace HM := (HM.front 0 rfl rfl).drop
          replace HM := (HM.front 0 rfl rfl).drop
          replace HM := (HM.front 0 rfl rfl).drop
          replace HM := (HM.front 0 rfl rfl).drop
          have hR := Option.some.inj H
          subst hR
          exact at_ret1 rfl rfl ⟨_, rfl, rfl, HM⟩
        · replace H := cond_f hb2337 H
          refine run_skip ?_
          refine at_then ?_
          refine run_seq ?_
          refine run_seq ?_
          obtain ⟨t2338, h2339, H⟩ := bind_some H
          obtain ⟨t2344, h2345, H⟩ := bind_some H
          refine run_drawf (fun w_ => Mem w [] w_ [own kCoin 104 u2329 t2327.fCoins, own kMember 144 u2331 t2327.fMembers, box b2307 51 [.int .i64 t2301.fTip, .int .i64 t2301.fHeight, u2303, u2305], own kCoin 104 u2303 t2301.fCoins, own kMember 144 u2305 t2301.fMembers, box b2295 51 [.int .i64 t2289.fTip, .int .i64 t2289.fHeight, u2291, u2293], own kCoin 104 u2291 t2289.fCoins, own kMember 144 u2293 t2289.fMembers, own kCoin 104 u2280 t2278.fCoins, own kMember 144 u2282 t2278.fMembers, own kCoin 104 u2274 t2272.fCoins, own kMember 144 u2276 t2272.fMembers, box b2257 46 [.int .i64 x1.fTip, .int .i64 x1.fHeight, p1_0, p1_1], box b2254 46 [.int .i64 x0.fTip, .int .i64 x0.fHeight, p0_0, p0_1]]) [(0, true), (1, true), (2, false), (3, false), (4, true)] mixed rfl rfl (by kernel_rfl) ?_
          replace HM := HM.grow (fr_drew _)
          have hS := Mem.suf (M := []) HM
          refine drwp_take rfl (guard_none rfl) rfl rfl (fun w_ hS_ => (ex_loadN (cs := [(.int .i64 t2301.fTip), (.int .i64 t2301.fHeight), u2303, u2305]) rfl rfl Try.underlying51 rfl tsz51 rfl ((hS_.box_at 2 rfl).sub 0 4 rfl))) hS ?_
          refine drwp_take rfl (guard_none rfl) rfl rfl (fun w_ hS_ => (ex_loadN (cs := [(.int .i64 x1.fTip), (.int .i64 x1.fHeight), p1_0, p1_1]) rfl rfl Try.underlying46 rfl tsz46 rfl ((hS_.box_at 12 rfl).sub 0 4 rfl))) hS ?_
          refine drwp_one rfl (guard_none rfl) rfl rfl (does_callk rfl callok31 rfl (laws_toState.calls (x0 := x1) (HM.rd hp1_0) (HM.rd hp1_1) h2339)) ?_
          rintro _ w2346 ⟨u2340, u2342, rfl, hn⟩
          replace HM : Mem w [] w2346 [own kCoin 104 u2340 t2338.fCoins, own kMember 144 u2342 t2338.fMembers, own kCoin 104 u2329 t2327.fCoins, own kMember 144 u2331 t2327.fMembers, box b2307 51 [.int .i64 t2301.fTip, .int .i64 t2301.fHeight, u2303, u2305], own kCoin 104 u2303 t2301.fCoins, own kMember 144 u2305 t2301.fMembers, box b2295 51 [.int .i64 t2289.fTip, .int .i64 t2289.fHeight, u2291, u2293], own kCoin 104 u2291 t2289.fCoins, own kMember 144 u2293 t2289.fMembers, own kCoin 104 u2280 t2278.fCoins, own kMember 144 u2282 t2278.fMembers, own kCoin 104 u2274 t2272.fCoins, own kMember 144 u2276 t2272.fMembers, box b2257 46 [.int .i64 x1.fTip, .int .i64 x1.fHeight, p1_0, p1_1], box b2254 46 [.int .i64 x0.fTip, .int .i64 x0.fHeight, p0_0, p0_1]] := HM.call hn
          refine ⟨Mem.suf (M := [own kCoin 104 u2340 t2338.fCoins, own kMember 144 u2342 t2338.fMembers]) HM, ?_⟩
          have hS := Mem.suf (M := [own kCoin 104 u2340 t2338.fCoins, own kMember 144 u2342 t2338.fMembers]) HM
          refine drwp_one rfl (guard_none rfl) rfl rfl (does_callk rfl callok33 rfl (laws_eqState.calls (x0 := t2301) (x1 := t2338) (HM.own_rd 5 rfl) (HM.own_rd 6 rfl) (HM.own_rd 0 rfl) (HM.own_rd 1 rfl) h2345)) ?_
          rintro _ w2347 ⟨rfl, hn⟩
          replace HM : Mem w [] w2347 [own kCoin 104 u2340 t2338.fCoins, own kMember 144 u2342 t2338.fMembers, own kCoin 104 u2329 t2327.fCoins, own kMember 144 u2331 t2327.fMembers, box b2307 51 [.int .i64 t2301.fTip, .int .i64 t2301.fHeight, u2303, u2305], own kCoin 104 u2303 t2301.fCoins, own kMember 144 u2305 t2301.fMembers, box b2295 51 [.int .i64 t2289.fTip, .int .i64 t2289.fHeight, u2291, u2293], own kCoin 104 u2291 t2289.fCoins, own kMember 144 u2293 t2289.fMembers, own kCoin 104 u2280 t2278.fCoins, own kMember 144 u2282 t2278.fMembers, own kCoin 104 u2274 t2272.fCoins, own kMember 144 u2276 t2272.fMembers, box b2257 46 [.int .i64 x1.fTip, .int .i64 x1.fHeight, p1_0, p1_1], box b2254 46 [.int .i64 x0.fTip, .int .i64 x0.fHeight, p0_0, p0_1]] := HM.call hn
          refine ⟨Mem.suf (M := [own kCoin 104 u2340 t2338.fCoins, own kMember 144 u2342 t2338.fMembers]) HM, ?_⟩
          have hS := Mem.suf (M := [own kCoin 104 u2340 t2338.fCoins, own kMember 144 u2342 t2338.fMembers]) HM
          refine drwp_take rfl (guard_none rfl) rfl rfl (fun w_ hS_ => (ex_not rfl rfl)) hS ?_
          refine drwp_done ?_
          refine at_then ?_
          refine run_cond (b := !t2344) rfl (fun hb2348 => ?_) (fun hb2348 => ?_)
          · replace H := cond_t hb2348 H
            refine run_seq ?_
            refine run_region rfl ?_
            refine ops_ex rfl (guard_none rfl) rfl rfl (ex_assign rfl rfl) ?_
            refine ops_nil ?_
            refine at_then ?_
            refine run_ret ?_
            refine at_then_ret ?_
            replace HM := (HM.front 0 rfl rfl).drop
            replace HM := (HM.front 0 rfl rfl).drop
            replace HM := (HM.front 0 rfl rfl).drop
            replace HM := (HM.front 0 rfl rfl).drop
            replace HM := (HM.front 0 rfl rfl).drop
            replace HM := (HM.front 0 rfl rfl).drop
            replace HM := (HM.front 0 rfl rfl).drop
            replace HM := (HM.front 0 rfl rfl).drop
            replace HM := (HM.front 0 rfl rfl).drop
            replace HM := (HM.front 0 rfl rfl).drop
            replace HM := (HM.front 0 rfl rfl).drop
            replace HM := (HM.front 0 rfl rfl).drop
            replace HM := (HM.front 0 rfl rfl).drop
            replace HM := (HM.front 0 rfl rfl).drop
            replace HM := (HM.front 0 rfl rfl).drop
            replace HM := (HM.front 0 rfl rfl).drop
            have hR := Option.some.inj H
            subst hR
            exact at_ret1 rfl rfl ⟨_, rfl, rfl, HM⟩
          · replace H := cond_f hb2348 H
            refine run_skip ?_
            refine at_then ?_
            refine run_seq ?_
            refine run_region rfl ?_
            refine ops_ex rfl (guard_none rfl) rfl rfl (ex_assign rfl rfl) ?_
            refine ops_nil ?_
            refine at_then ?_
            refine run_ret ?_
            replace HM := (HM.front 0 rfl rfl).drop
            replace HM := (HM.front 0 rfl rfl).drop
            replace HM := (HM.front 0 rfl rfl).drop
            replace HM := (HM.front 0 rfl rfl).drop
            replace HM := (HM.front 0 rfl rfl).drop
            replace HM := (HM.front 0 rfl rfl).drop
            replace HM := (HM.front 0 rfl rfl).drop
            replace HM := (HM.front 0 rfl rfl).drop
            replace HM := (HM.front 0 rfl rfl).drop
            replace HM := (HM.front 0 rfl rfl).drop
            replace HM := (HM.front 0 rfl rfl).drop
            replace HM := (HM.front 0 rfl rfl).drop
            replace HM := (HM.front 0 rfl rfl).drop
            replace HM := (HM.front 0 rfl rfl).drop
            replace HM := (HM.front 0 rfl rfl).drop
            replace HM := (HM.front 0 rfl rfl).drop
            have hR := Option.some.inj H
            subst hR
            exact at_ret1 rfl rfl ⟨_, rfl, rfl, HM⟩
end Go.Proofs.Ytoiacoiccpiciaa.Zk
