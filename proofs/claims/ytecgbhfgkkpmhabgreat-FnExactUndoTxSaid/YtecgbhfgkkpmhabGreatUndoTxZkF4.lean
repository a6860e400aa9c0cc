/- What functions of the program compute, each as a plain function, and that they do. Conditions: as each theorem states them. -/
import Derived.Test.YtecgbhfgkkpmhabGreatUndoTxZkF3
namespace Go.Proofs.YtecgbhfgkkpmhabGreat.Zk
open Go Go.RowKit Go.IntWalk Go.Proofs
set_option linter.unusedVariables false
set_option linter.unusedSimpArgs false
set_option maxRecDepth 100000
set_option maxHeartbeats 4000000
def spec_l4At.l0 (x0 : List Coin) (x1 : Ref) : Nat → Int → Option (Int ⊕ Unit)
  | 0, _ => none
  | k + 1, a3039 => (bif (decide (a3039 < (x0.length : Int))) then (chk (idxOk a3039 x0.length) (bif ((((gt x0 a3039).fRef.fTx) == x1.fTx) && (((gt x0 a3039).fRef.fAt) == x1.fAt)) then some (.inl a3039) else spec_l4At.l0 x0 x1 k (wrap64 (a3039 + 1)))) else some (.inr ()))
theorem spec_l4At.l0_z (x0 : List Coin) (x1 : Ref) (a3039 : Int) : spec_l4At.l0 x0 x1 0 a3039 = none := rfl
theorem spec_l4At.l0_s (x0 : List Coin) (x1 : Ref) (k : Nat) (a3039 : Int) : spec_l4At.l0 x0 x1 (k + 1) a3039 = (bif (decide (a3039 < (x0.length : Int))) then (chk (idxOk a3039 x0.length) (bif ((((gt x0 a3039).fRef.fTx) == x1.fTx) && (((gt x0 a3039).fRef.fAt) == x1.fAt)) then some (.inl a3039) else spec_l4At.l0 x0 x1 k (wrap64 (a3039 + 1)))) else some (.inr ())) := rfl
def spec_l4At.f (k : Nat) (x0 : List Coin) (x1 : Ref) : Option Int := ((spec_l4At.l0 x0 x1 k 0).bind fun o3031 => thn o3031 (fun r => some r) (fun _ => some (-1)))
theorem spec_l4At.calls {k : Nat} {x0 : List Coin} {x1 : Ref} {p0 : Value} {w : World} (hp0 : RdS kCoin w p0 x0) {r : Int} (H : spec_l4At.f k x0 x1 = some r) :
    Calls Tryz.prog 25 ([p0, .agg #[(.int .i64 x1.fTx), (.int .i64 x1.fAt)]] : List Value).toArray w (fun e w_ => ∃ v, e = .returned v ∧ v = (.int .i64 r) ∧ Mem w [] w_ []) := by
  have HM := Mem.start w
  refine calls_run (N := 20) Tryz.func25 rfl rfl rfl rfl ?_
  unfold spec_l4At.f at H
  refine run_seq ?_
  refine run_region rfl ?_
  refine od rfl rfl rfl rfl (does_box (cs := [.int .i64 x1.fTx, .int .i64 x1.fAt]) rfl rfl rfl HM) ?_
  rintro _ w3011 ⟨b3008, rfl, HM⟩
  refine ox rfl rfl rfl rfl (ex_assign rfl rfl) ?_
  refine ops_nil (at_then ?_)
  obtain ⟨o3031, ho3032, H⟩ := bind_some H
  refine run_mid (fun ρ_ w_ => Sum.inr () = o3031 ∧ ρ_ = [] ∧ Mem w [] w_ []) ?_ ?_
  · skip
    refine run_seq ?_
    refine run_region rfl ?_
    refine ox rfl rfl rfl rfl (ex_assign rfl rfl) ?_
    refine ops_nil (at_then ?_)
    refine run_block ?_
    refine run_loop (fun k_ ρ_ w_ => ∃ a3039 : Int, spec_l4At.l0 x0 x1 k_ a3039 = some o3031 ∧ ρ_ = [(0, p0), (3, .pointer (some ⟨b3008, 0, none⟩)), (5, .int .i64 a3039)] ∧ Mem w [] w_ [box b3008 66 [.int .i64 x1.fTx, .int .i64 x1.fAt]]) k (ρ1 := [(0, p0), (3, .pointer (some ⟨b3008, 0, none⟩)), (5, .int .i64 0)]) ⟨_, ho3032, rfl, HM⟩ (Sub.cons rfl (Sub.cons rfl (Sub.cons rfl Sub.nil))) ?_
    clear HM ho3032
    rintro k3046 _ w3047 ⟨a3039, ho3032, rfl, HM⟩
    obtain _ | k3046 := k3046
    · exact nomatch ((spec_l4At.l0_z x0 x1 a3039).symm.trans ho3032)
    replace ho3032 := (spec_l4At.l0_s x0 x1 k3046 a3039).symm.trans ho3032
    refine run_seq ?_
    refine run_seq ?_
    refine run_region rfl ?_
    refine ox rfl rfl rfl rfl (ex_move rfl rfl) ?_
    refine ox rfl rfl rfl rfl (ex_move rfl rfl) ?_
    refine ox rfl rfl rfl rfl (ex_len (d := kCoin) (xs := x0) rfl rfl Tryz.underlying29 hp0) ?_
    refine ox rfl rfl rfl rfl (ex_lss rfl rfl rfl) ?_
    refine ops_nil (at_then ?_)
    refine run_cond (b := (decide (a3039 < (x0.length : Int)))) rfl (fun hb3048 => ?_) (fun hb3048 => ?_)
    · replace ho3032 := cond_t hb3048 ho3032
      refine run_skip ?_
      refine at_then ?_
      refine run_seq ?_
      refine run_block ?_
      refine run_seq ?_
      obtain ⟨e3049, ho3032⟩ := chk_some ho3032
      refine run_drawf (fun w_ => Mem w [] w_ [box b3008 66 [.int .i64 x1.fTx, .int .i64 x1.fAt]]) [(0, true), (1, true), (2, true), (3, true), (4, true), (5, true), (6, true)] mixed rfl rfl (by kernel_rfl) ?_
      replace HM := HM.grow (fr_drew _)
      have hS := Mem.suf (M := []) HM
      refine dp rfl rfl rfl rfl (ex_move rfl rfl) hS ?_
      refine dp rfl rfl rfl rfl (ex_move rfl rfl) hS ?_
      obtain ⟨kv3051, hc3050, hk3052⟩ : ∃ u, CellsAt _ (sb p0) (so p0 + (a3039).toNat * 8) [(.int .i64 ((gt x0 a3039).fRef.fTx)), (.int .i64 ((gt x0 a3039).fRef.fAt)), (.int .i64 ((gt x0 a3039).fOut.fValue)), u, (.int .i64 ((gt x0 a3039).fOut.fRule.fNeed)), (.int .i64 ((gt x0 a3039).fOut.fRule.fAfter)), (.int .i64 ((gt x0 a3039).fHeight)), (.bool ((gt x0 a3039).fMined))] ∧ RdS kInt _ u ((gt x0 a3039).fOut.fRule.fKeys) := rd_with1 hp0 e3049
      refine dp rfl rfl rfl rfl (ex_indexAddr (d := kCoin) rfl rfl rfl Tryz.underlying29 tsz72 hp0 (idx_lo e3049) (idx_hi e3049)) hS ?_
      refine dp rfl rfl rfl rfl (ex_fieldAddr (off' := so p0 + (a3039).toNat * 8) rfl rfl Tryz.underlying72 rfl tsz66 rfl) hS ?_
      refine drwp_take rfl (guard_none rfl) rfl rfl (fun w_ hS_ => (ex_loadN (cs := [(.int .i64 ((gt x0 a3039).fRef.fTx)), (.int .i64 ((gt x0 a3039).fRef.fAt))]) rfl rfl Tryz.underlying66 rfl tsz66 rfl ((hS_.at_ hc3050).sub 0 2 rfl))) hS ?_
      refine drwp_take rfl (guard_none rfl) rfl rfl (fun w_ hS_ => (ex_loadN (cs := [(.int .i64 x1.fTx), (.int .i64 x1.fAt)]) rfl rfl Tryz.underlying66 rfl tsz66 rfl ((hS_.box_at 0 rfl).sub 0 2 rfl))) hS ?_
      refine dp rfl rfl rfl rfl (ex_aeql rfl rfl rfl (by kernel_rfl) (eqs66 _ _ _ _ _)) hS ?_
      refine drwp_done ?_
      refine at_then ?_
      refine run_cond (b := ((((gt x0 a3039).fRef.fTx) == x1.fTx) && (((gt x0 a3039).fRef.fAt) == x1.fAt))) rfl (fun hb3053 => ?_) (fun hb3053 => ?_)
      · replace ho3032 := cond_t hb3053 ho3032
        refine run_seq ?_
        refine run_region rfl ?_
        refine ox rfl rfl rfl rfl (ex_move rfl rfl) ?_
        refine ox rfl rfl rfl rfl (ex_assign rfl rfl) ?_
        refine ops_nil (at_then ?_)
        refine run_ret ?_
        refine at_block_ret ?_
        refine at_then_ret ?_
        refine at_then_ret ?_
        refine at_block_ret ?_
        refine at_then_ret ?_
        replace HM := (HM.front 0 rfl rfl).drop
        have hR := Option.some.inj ho3032
        subst hR
        have hT := thn_inl H
        have hR := Option.some.inj hT
        subst hR
        exact at_ret1 rfl rfl ⟨_, rfl, rfl, HM⟩
      · replace ho3032 := cond_f hb3053 ho3032
        refine run_skip ?_
        refine at_block ?_
        refine at_then ?_
        refine run_region rfl ?_
        refine ox rfl rfl rfl rfl (ex_move rfl rfl) ?_
        refine ox rfl rfl rfl rfl (ex_add rfl rfl rfl) ?_
        refine ox rfl rfl rfl rfl (ex_assign rfl rfl) ?_
        refine ops_nil ?_
        exact at_again k3046 (ρ1 := [(0, p0), (3, .pointer (some ⟨b3008, 0, none⟩)), (5, .int .i64 (wrap64 (a3039 + 1)))]) (Nat.lt_succ_self _) ⟨_, ho3032, rfl, HM⟩ (Sub.cons rfl (Sub.cons rfl (Sub.cons rfl Sub.nil)))
    · replace ho3032 := cond_f hb3048 ho3032
      refine run_exit ?_
      refine at_then_exit ?_
      refine at_then_exit ?_
      refine at_block_exit ?_
      replace HM := (HM.front 0 rfl rfl).drop
      exact at_mid (ρ' := []) ⟨(Option.some.inj ho3032), rfl, HM⟩ Sub.nil
  · rintro _ w3054 ⟨rfl, rfl, HM⟩
    replace H := (thn_inr H)
    refine run_seq ?_
    refine run_region rfl ?_
    refine ox rfl rfl rfl rfl (ex_assign rfl rfl) ?_
    refine ops_nil (at_then ?_)
    refine run_ret ?_
    have hR := Option.some.inj H
    subst hR
    exact at_ret1 rfl rfl ⟨_, rfl, rfl, HM⟩

def spec_l4Add.l0 (x0 : List Coin) (x1 : Coin) : Nat → Int → Option Int
  | 0, _ => none
  | k + 1, a3267 => (chk (!(decide (a3267 < (x0.length : Int))) || (idxOk a3267 x0.length)) ((bif (decide (a3267 < (x0.length : Int))) then spec_l4Ahead.f k ((gt x0 a3267).fRef) x1.fRef else some default).bind fun t3275 => (bif ((decide (a3267 < (x0.length : Int))) && t3275) then spec_l4Add.l0 x0 x1 k (wrap64 (a3267 + 1)) else some a3267)))
theorem spec_l4Add.l0_z (x0 : List Coin) (x1 : Coin) (a3267 : Int) : spec_l4Add.l0 x0 x1 0 a3267 = none := rfl
theorem spec_l4Add.l0_s (x0 : List Coin) (x1 : Coin) (k : Nat) (a3267 : Int) : spec_l4Add.l0 x0 x1 (k + 1) a3267 = (chk (!(decide (a3267 < (x0.length : Int))) || (idxOk a3267 x0.length)) ((bif (decide (a3267 < (x0.length : Int))) then spec_l4Ahead.f k ((gt x0 a3267).fRef) x1.fRef else some default).bind fun t3275 => (bif ((decide (a3267 < (x0.length : Int))) && t3275) then spec_l4Add.l0 x0 x1 k (wrap64 (a3267 + 1)) else some a3267))) := rfl
def spec_l4Add.f (k : Nat) (x0 : List Coin) (x1 : Coin) : Option ((List Coin)) := ((spec_l4Add.l0 x0 x1 k 0).bind (fun a3260 => (chk (cutOk a3260 x0.length) (chk (leB ((a3260).toNat * 80) 140737488355328) (chk (cutOk a3260 x0.length) (chk (leB (((a3260).toNat + ([x1] : List Coin).length) * 80) 140737488355328) (chk (leB (((a3260).toNat + ([x1] : List Coin).length + (x0.length - (a3260).toNat)) * 80) 140737488355328) (chk (decide ((a3260).toNat ≤ (a3260).toNat)) (some (x0.take (a3260).toNat ++ ([x1] : List Coin) ++ x0.drop (a3260).toNat))))))))))
theorem spec_l4Add.calls {k : Nat} {x0 : List Coin} {x1 : Coin} {p0 : Value} {p1_0 : Value} {w wo : World} {X : List Nat} (hwo : Olds wo w X) (hX : Hold w [own kCoin 72 p0 x0, own kInt 2 p1_0 x1.fOut.fRule.fKeys] X) (hXn : X.Nodup) (hXl : ∀ b ∈ X, b < w.heap.size)  {r : (List Coin)} (H : spec_l4Add.f k x0 x1 = some r) :
    Calls Tryz.prog 50 ([p0, .agg #[(.int .i64 x1.fRef.fTx), (.int .i64 x1.fRef.fAt), (.int .i64 x1.fOut.fValue), p1_0, (.int .i64 x1.fOut.fRule.fNeed), (.int .i64 x1.fOut.fRule.fAfter), (.int .i64 x1.fHeight), (.bool x1.fMined)]] : List Value).toArray w (fun e w_ => ∃ v, e = .returned v ∧ ∃ u0 : Value, v = u0 ∧ Mem w X w_ [own kCoin 72 u0 r]) := by
  have HM := Mem.startX hX hXn hXl
  refine calls_run (N := 36) Tryz.func50 rfl rfl rfl rfl ?_
  unfold spec_l4Add.f at H
  refine run_seq ?_
  refine run_region rfl ?_
  refine od rfl rfl rfl rfl (does_box (cs := [.int .i64 x1.fRef.fTx, .int .i64 x1.fRef.fAt, .int .i64 x1.fOut.fValue, p1_0, .int .i64 x1.fOut.fRule.fNeed, .int .i64 x1.fOut.fRule.fAfter, .int .i64 x1.fHeight, .bool x1.fMined]) rfl rfl rfl HM) ?_
  rintro _ w3246 ⟨b3243, rfl, HM⟩
  refine ox rfl rfl rfl rfl (ex_assign rfl rfl) ?_
  refine ops_nil (at_then (run_seq ?_))
  refine run_region rfl ?_
  refine ox rfl rfl rfl rfl (ex_assign rfl rfl) ?_
  refine ops_nil (at_then ?_)
  obtain ⟨o3261, ho3262, H⟩ := bind_some H
  refine run_mid (fun ρ_ w_ => ∃ a3260 : Int, a3260 = o3261 ∧ ρ_ = [(0, p0), (3, .pointer (some ⟨b3243, 0, none⟩)), (5, .int .i64 a3260)] ∧ Mem w X w_ [own kCoin 72 p0 x0, own kInt 2 p1_0 x1.fOut.fRule.fKeys, box b3243 72 [.int .i64 x1.fRef.fTx, .int .i64 x1.fRef.fAt, .int .i64 x1.fOut.fValue, p1_0, .int .i64 x1.fOut.fRule.fNeed, .int .i64 x1.fOut.fRule.fAfter, .int .i64 x1.fHeight, .bool x1.fMined]]) ?_ ?_
  · clear H
    refine run_block ?_
    replace HM := HM.front 2 rfl rfl
    replace HM := HM.front 2 rfl rfl
    refine run_loop (fun k_ ρ_ w_ => ∃ a3267 : Int, spec_l4Add.l0 x0 x1 k_ a3267 = some o3261 ∧ ρ_ = [(0, p0), (3, .pointer (some ⟨b3243, 0, none⟩)), (5, .int .i64 a3267)] ∧ Mem w X w_ [own kCoin 72 p0 x0, own kInt 2 p1_0 x1.fOut.fRule.fKeys, box b3243 72 [.int .i64 x1.fRef.fTx, .int .i64 x1.fRef.fAt, .int .i64 x1.fOut.fValue, p1_0, .int .i64 x1.fOut.fRule.fNeed, .int .i64 x1.fOut.fRule.fAfter, .int .i64 x1.fHeight, .bool x1.fMined]]) k (ρ1 := [(0, p0), (3, .pointer (some ⟨b3243, 0, none⟩)), (5, .int .i64 0)]) ⟨_, ho3262, rfl, HM⟩ (Sub.cons rfl (Sub.cons rfl (Sub.cons rfl Sub.nil))) ?_
    clear HM ho3262
    rintro k3272 _ w3273 ⟨a3267, ho3262, rfl, HM⟩
    obtain _ | k3272 := k3272
    · exact nomatch ((spec_l4Add.l0_z x0 x1 a3267).symm.trans ho3262)
    replace ho3262 := (spec_l4Add.l0_s x0 x1 k3272 a3267).symm.trans ho3262
    refine run_seq ?_
    refine run_seq ?_
    obtain ⟨e3274, ho3262⟩ := chk_some ho3262
    obtain ⟨t3275, h3276, ho3262⟩ := bind_some ho3262
    refine run_meet (fun ρ_ w_ => ρ_ = [(0, p0), (3, .pointer (some ⟨b3243, 0, none⟩)), (5, .int .i64 a3267), (20, .bool ((decide (a3267 < (x0.length : Int))) && t3275))] ∧ Mem w X w_ [own kCoin 72 p0 x0, own kInt 2 p1_0 x1.fOut.fRule.fKeys, box b3243 72 [.int .i64 x1.fRef.fTx, .int .i64 x1.fRef.fAt, .int .i64 x1.fOut.fValue, p1_0, .int .i64 x1.fOut.fRule.fNeed, .int .i64 x1.fOut.fRule.fAfter, .int .i64 x1.fHeight, .bool x1.fMined]]) ?_ ?_
    · skip
      refine run_drawf (fun w_ => Mem w X w_ [own kCoin 72 p0 x0, own kInt 2 p1_0 x1.fOut.fRule.fKeys, box b3243 72 [.int .i64 x1.fRef.fTx, .int .i64 x1.fRef.fAt, .int .i64 x1.fOut.fValue, p1_0, .int .i64 x1.fOut.fRule.fNeed, .int .i64 x1.fOut.fRule.fAfter, .int .i64 x1.fHeight, .bool x1.fMined]]) [(0, true), (1, true), (2, true), (3, true), (4, true), (5, true), (6, true), (7, true), (8, true), (9, true), (10, true), (11, true), (12, false), (13, true)] mixed rfl rfl (by kernel_rfl) ?_
      replace HM := HM.grow (fr_drew _)
      have hS := Mem.suf (M := []) HM
      refine dp rfl rfl rfl rfl (ex_move rfl rfl) hS ?_
      refine dp rfl rfl rfl rfl (ex_move rfl rfl) hS ?_
      refine drwp_take rfl (guard_none rfl) rfl rfl (fun w_ hS_ => (ex_len (d := kCoin) (xs := x0) rfl rfl Tryz.underlying29 (hS_.own_rd 0 rfl))) hS ?_
      refine dp rfl rfl rfl rfl (ex_lss rfl rfl rfl) hS ?_
      refine dp rfl rfl rfl rfl (ex_move rfl rfl) hS ?_
      refine bool_cases (decide (a3267 < (x0.length : Int))) (fun hg3277 => ?_) (fun hg3277 => ?_)
      · skip
        refine drwp_take rfl (guard_on rfl rfl rfl hg3277) rfl rfl (fun w_ hS_ => (ex_move rfl rfl)) hS ?_
        refine drwp_take rfl (guard_on rfl rfl rfl hg3277) rfl rfl (fun w_ hS_ => (ex_move rfl rfl)) hS ?_
        refine drwp_take rfl (guard_on rfl rfl rfl hg3277) rfl rfl (fun w_ hS_ => (ex_indexAddr (d := kCoin) rfl rfl rfl Tryz.underlying29 tsz72 (hS_.own_rd 0 rfl) (idx_lo (or_t e3274 hg3277)) (idx_hi (or_t e3274 hg3277)))) hS ?_
        refine drwp_take rfl (guard_on rfl rfl rfl hg3277) rfl rfl (fun w_ hS_ => (ex_fieldAddr (off' := so p0 + (a3267).toNat * 8) rfl rfl Tryz.underlying72 rfl tsz66 rfl)) hS ?_
        refine drwp_take rfl (guard_on rfl rfl rfl hg3277) rfl rfl (fun w_ hS_ => (let ⟨_, hc_, _⟩ := rd_with1 (hS_.own_rd 0 rfl) (or_t e3274 hg3277); ex_loadN (cs := [(.int .i64 ((gt x0 a3267).fRef.fTx)), (.int .i64 ((gt x0 a3267).fRef.fAt))]) rfl rfl Tryz.underlying66 rfl tsz66 rfl (hc_.sub 0 2 rfl))) hS ?_
        refine drwp_take rfl (guard_on rfl rfl rfl hg3277) rfl rfl (fun w_ hS_ => (ex_fieldAddr (off' := 0) rfl rfl Tryz.underlying72 rfl tsz66 rfl)) hS ?_
        refine drwp_take rfl (guard_on rfl rfl rfl hg3277) rfl rfl (fun w_ hS_ => (ex_loadN (cs := [(.int .i64 x1.fRef.fTx), (.int .i64 x1.fRef.fAt)]) rfl rfl Tryz.underlying66 rfl tsz66 rfl ((hS_.box_at 2 rfl).sub 0 2 rfl))) hS ?_
        refine drwp_one rfl (guard_on rfl rfl rfl hg3277) rfl rfl (does_callk rfl callok44 rfl (spec_l4Ahead.calls (x0 := (gt x0 a3267).fRef) (x1 := x1.fRef) (cond_t hg3277 h3276))) ?_
        rintro _ w3278 ⟨rfl, hn⟩
        replace HM : Mem w X w3278 [own kCoin 72 p0 x0, own kInt 2 p1_0 x1.fOut.fRule.fKeys, box b3243 72 [.int .i64 x1.fRef.fTx, .int .i64 x1.fRef.fAt, .int .i64 x1.fOut.fValue, p1_0, .int .i64 x1.fOut.fRule.fNeed, .int .i64 x1.fOut.fRule.fAfter, .int .i64 x1.fHeight, .bool x1.fMined]] := HM.call hn
        have hS := Mem.suf (M := []) HM
        refine ⟨hS, ?_⟩
        refine drwp_take (v := .bool ((decide (a3267 < (x0.length : Int))) && t3275)) rfl (guard_none rfl) rfl rfl (fun w_ hS_ => (ex_pand_t rfl rfl hg3277 rfl)) hS ?_
        refine drwp_done ?_
        exact at_meet [(0, p0), (3, .pointer (some ⟨b3243, 0, none⟩)), (5, .int .i64 a3267), (20, .bool ((decide (a3267 < (x0.length : Int))) && t3275))] ⟨rfl, HM⟩ (Sub.cons rfl (Sub.cons rfl (Sub.cons rfl (Sub.cons rfl Sub.nil))))
      · skip
        refine drwp_off rfl (guard_off rfl rfl rfl hg3277) rfl rfl hS ?_
        refine drwp_off rfl (guard_off rfl rfl rfl hg3277) rfl rfl hS ?_
        refine drwp_off rfl (guard_off rfl rfl rfl hg3277) rfl rfl hS ?_
        refine drwp_off rfl (guard_off rfl rfl rfl hg3277) rfl rfl hS ?_
        refine drwp_off rfl (guard_off rfl rfl rfl hg3277) rfl rfl hS ?_
        refine drwp_off rfl (guard_off rfl rfl rfl hg3277) rfl rfl hS ?_
        refine drwp_off rfl (guard_off rfl rfl rfl hg3277) rfl rfl hS ?_
        refine drwp_off1 rfl (guard_off rfl rfl rfl hg3277) rfl rfl ⟨hS, ?_⟩
        have hg3279 : ((decide (a3267 < (x0.length : Int))) && t3275) = false := by simp only [hg3277, Bool.and_true, Bool.true_and, Bool.and_false, Bool.false_and, Bool.or_true, Bool.true_or, Bool.or_false, Bool.false_or, Bool.not_true, Bool.not_false, Bool.not_not]
        refine drwp_take (v := .bool ((decide (a3267 < (x0.length : Int))) && t3275)) rfl (guard_none rfl) rfl rfl (fun w_ hS_ => (ex_pand_f rfl rfl hg3277)) hS ?_
        refine drwp_done ?_
        exact at_meet [(0, p0), (3, .pointer (some ⟨b3243, 0, none⟩)), (5, .int .i64 a3267), (20, .bool ((decide (a3267 < (x0.length : Int))) && t3275))] ⟨rfl, HM⟩ (Sub.cons rfl (Sub.cons rfl (Sub.cons rfl (Sub.cons rfl Sub.nil))))
    · rintro _ w3280 ⟨rfl, HM⟩
      refine at_then ?_
      refine run_cond (b := ((decide (a3267 < (x0.length : Int))) && t3275)) rfl (fun hb3281 => ?_) (fun hb3281 => ?_)
      · replace ho3262 := cond_t hb3281 ho3262
        refine run_skip ?_
        refine at_then ?_
        refine run_block ?_
        refine run_region rfl ?_
        refine ox rfl rfl rfl rfl (ex_move rfl rfl) ?_
        refine ox rfl rfl rfl rfl (ex_add rfl rfl rfl) ?_
        refine ox rfl rfl rfl rfl (ex_assign rfl rfl) ?_
        refine ops_nil ?_
        refine at_block ?_
        exact at_again k3272 (ρ1 := [(0, p0), (3, .pointer (some ⟨b3243, 0, none⟩)), (5, .int .i64 (wrap64 (a3267 + 1)))]) (Nat.lt_succ_self _) ⟨_, ho3262, rfl, HM⟩ (Sub.cons rfl (Sub.cons rfl (Sub.cons rfl Sub.nil)))
      · replace ho3262 := cond_f hb3281 ho3262
        refine run_exit ?_
        refine at_then_exit ?_
        refine at_then_exit ?_
        refine at_block_exit ?_
        exact at_mid (ρ' := [(0, p0), (3, .pointer (some ⟨b3243, 0, none⟩)), (5, .int .i64 a3267)]) ⟨_, (Option.some.inj ho3262), rfl, HM⟩ (Sub.cons rfl (Sub.cons rfl (Sub.cons rfl Sub.nil)))
  · rintro _ w3282 ⟨a3260, rfl, rfl, HM⟩
    refine run_seq ?_
    obtain ⟨e3286, H⟩ := chk_some H
    obtain ⟨e3288, H⟩ := chk_some H
    refine run_region rfl ?_
    refine od rfl rfl rfl rfl (does_lit (e := 72) (cs := []) (xs := ([] : List Coin)) kCoin rfl rfl (fun _ => by kernel_rfl) rfl rfl (fun _ _ h => by have h' : _ = [] := h; subst h'; exact .nil) HM.emp) ?_
    rintro v3283 w3289 HM
    refine ox rfl rfl rfl rfl (ex_move rfl rfl) ?_
    refine ox rfl rfl rfl rfl (ex_move rfl rfl) ?_
    refine ox rfl rfl rfl rfl (ex_cutvH rfl rfl rfl Tryz.underlying29 tsz72 (cut_lo e3286) ((HM.own_rd 1 rfl).cap.le (cut_hi e3286))) ?_
    replace HM := HM.front 1 rfl rfl
    replace HM := HM.front 1 rfl rfl
    refine od rfl rfl rfl rfl (does_mv1 (k := (a3260).toNat) kCoin rfl rfl rfl Tryz.underlying29 tsz72 tby72 tz72 rfl rfl (cut_hi e3286) (leB_le e3288) HM) ?_
    rintro v3287 w3290 HM
    refine ox rfl rfl rfl rfl (ex_assign rfl rfl) ?_
    refine ops_nil (at_then (run_seq ?_))
    obtain ⟨e3291, H⟩ := chk_some H
    obtain ⟨e3296, H⟩ := chk_some H
    obtain ⟨e3298, H⟩ := chk_some H
    obtain ⟨e3299, H⟩ := chk_some H
    replace HM := HM.front 1 rfl rfl
    replace HM := HM.front 1 rfl rfl
    refine run_drawf (fun w_ => Mem w X w_ [box b3243 72 [.int .i64 x1.fRef.fTx, .int .i64 x1.fRef.fAt, .int .i64 x1.fOut.fValue, p1_0, .int .i64 x1.fOut.fRule.fNeed, .int .i64 x1.fOut.fRule.fAfter, .int .i64 x1.fHeight, .bool x1.fMined]]) [(0, true), (1, true), (4, true), (5, true), (6, true), (2, false), (3, false), (7, false), (8, true)] mixed rfl rfl (by kernel_rfl) ?_
    replace HM := HM.grow (fr_drew _)
    have hS := Mem.suf (M := [mvC kCoin 72 p0 x0 v3287 (a3260).toNat, own kInt 2 p1_0 x1.fOut.fRule.fKeys]) HM
    refine dp rfl rfl rfl rfl (ex_move rfl rfl) hS ?_
    refine drwp_take rfl (guard_none rfl) rfl rfl (fun w_ hS_ => (ex_loadN (cs := [(.int .i64 x1.fRef.fTx), (.int .i64 x1.fRef.fAt), (.int .i64 x1.fOut.fValue), p1_0, (.int .i64 x1.fOut.fRule.fNeed), (.int .i64 x1.fOut.fRule.fAfter), (.int .i64 x1.fHeight), (.bool x1.fMined)]) rfl rfl Tryz.underlying72 rfl tsz72 rfl ((hS_.box_at 0 rfl).sub 0 8 rfl))) hS ?_
    refine dp rfl rfl rfl rfl (ex_move rfl rfl) hS ?_
    refine dp rfl rfl rfl rfl (ex_move rfl rfl) hS ?_
    refine dp rfl rfl rfl rfl (ex_cutvL rfl rfl rfl Tryz.underlying29 tsz72 (HM.mv_rd 0 rfl) e3291) hS ?_
    replace HM := HM.front 1 rfl rfl
    refine drwp_one rfl (guard_none rfl) rfl rfl (does_lit (e := 72) (cs := [(.int .i64 x1.fRef.fTx), (.int .i64 x1.fRef.fAt), (.int .i64 x1.fOut.fValue), p1_0, (.int .i64 x1.fOut.fRule.fNeed), (.int .i64 x1.fOut.fRule.fAfter), (.int .i64 x1.fHeight), (.bool x1.fMined)]) (xs := ([x1] : List Coin)) kCoin rfl rfl (fun _ => by kernel_rfl) rfl rfl (fun _ _ h => by have := Elems.cons (d := kCoin) (x := x1) ⟨_, rfl, h⟩ .nil; rw [List.append_nil, List.append_nil] at this; exact this) HM) ?_
    rintro v3292 w3301 HM
    have hS := Mem.suf (M := [own kCoin 72 v3292 ([x1] : List Coin), mvC kCoin 72 p0 x0 v3287 (a3260).toNat]) HM
    refine ⟨hS, ?_⟩
    replace HM := HM.front 1 rfl rfl
    refine drwp_one rfl (guard_none rfl) rfl rfl (does_mvA (k := (a3260).toNat) kCoin rfl rfl rfl Tryz.underlying29 tsz72 tby72 tz72 rfl rfl (leB_le e3296) HM) ?_
    rintro v3295 w3302 HM
    have hS := Mem.suf (M := [mvC2 kCoin 72 p0 x0 v3295 (a3260).toNat ([x1] : List Coin)]) HM
    refine ⟨hS, ?_⟩
    refine drwp_one rfl (guard_none rfl) rfl rfl (does_mv3 (j := (a3260).toNat) kCoin rfl rfl rfl Tryz.underlying29 tsz72 tby72 tz72 rfl rfl (of_decide_eq_true e3299) (cut_hi e3291) (leB_le e3298) HM) ?_
    rintro v3297 w3303 HM
    have hS := Mem.suf (M := [own kCoin 72 v3297 (x0.take (a3260).toNat ++ ([x1] : List Coin) ++ x0.drop (a3260).toNat)]) HM
    refine ⟨hS, ?_⟩
    refine dp rfl rfl rfl rfl (ex_assign rfl rfl) hS ?_
    refine drwp_done ?_
    refine at_then ?_
    refine run_ret ?_
    replace HM := (HM.front 1 rfl rfl).drop
    have hR := Option.some.inj H
    subst hR
    exact at_ret1 rfl rfl ⟨_, rfl, _, rfl, HM⟩

def spec_l4Add_v2.l0 (x0 : List Coin) (x1 : Coin) : Nat → Int → Option Int
  | 0, _ => none
  | k + 1, a3364 => (chk (!(decide (a3364 < (x0.length : Int))) || (idxOk a3364 x0.length)) ((bif (decide (a3364 < (x0.length : Int))) then spec_l4Ahead.f k ((gt x0 a3364).fRef) x1.fRef else some default).bind fun t3372 => (bif ((decide (a3364 < (x0.length : Int))) && t3372) then spec_l4Add_v2.l0 x0 x1 k (wrap64 (a3364 + 1)) else some a3364)))
theorem spec_l4Add_v2.l0_z (x0 : List Coin) (x1 : Coin) (a3364 : Int) : spec_l4Add_v2.l0 x0 x1 0 a3364 = none := rfl
theorem spec_l4Add_v2.l0_s (x0 : List Coin) (x1 : Coin) (k : Nat) (a3364 : Int) : spec_l4Add_v2.l0 x0 x1 (k + 1) a3364 = (chk (!(decide (a3364 < (x0.length : Int))) || (idxOk a3364 x0.length)) ((bif (decide (a3364 < (x0.length : Int))) then spec_l4Ahead.f k ((gt x0 a3364).fRef) x1.fRef else some default).bind fun t3372 => (bif ((decide (a3364 < (x0.length : Int))) && t3372) then spec_l4Add_v2.l0 x0 x1 k (wrap64 (a3364 + 1)) else some a3364))) := rfl
def spec_l4Add_v2.f (k : Nat) (x0 : List Coin) (x1 : Coin) : Option ((List Coin)) := ((spec_l4Add_v2.l0 x0 x1 k 0).bind (fun a3357 => (chk (cutOk a3357 x0.length) (chk (leB ((a3357).toNat * 80) 140737488355328) (chk (cutOk a3357 x0.length) (chk (leB (((a3357).toNat + ([x1] : List Coin).length) * 80) 140737488355328) (chk (leB (((a3357).toNat + ([x1] : List Coin).length + (x0.length - (a3357).toNat)) * 80) 140737488355328) (chk (decide ((a3357).toNat ≤ (a3357).toNat)) (some (x0.take (a3357).toNat ++ ([x1] : List Coin) ++ x0.drop (a3357).toNat))))))))))
theorem spec_l4Add_v2.calls {k : Nat} {x0 : List Coin} {x1 : Coin} {p0 : Value} {p1_0 : Value} {w wo : World} {X : List Nat} (hwo : Olds wo w X) (hX : Hold w [own (Kd.lent wo kCoin with1_one) 72 p0 x0] X) (hXn : X.Nodup) (hXl : ∀ b ∈ X, b < w.heap.size) (hp1_0 : RdS kInt wo p1_0 x1.fOut.fRule.fKeys) {r : (List Coin)} (H : spec_l4Add_v2.f k x0 x1 = some r) :
    Calls Tryz.prog 50 ([p0, .agg #[(.int .i64 x1.fRef.fTx), (.int .i64 x1.fRef.fAt), (.int .i64 x1.fOut.fValue), p1_0, (.int .i64 x1.fOut.fRule.fNeed), (.int .i64 x1.fOut.fRule.fAfter), (.int .i64 x1.fHeight), (.bool x1.fMined)]] : List Value).toArray w (fun e w_ => ∃ v, e = .returned v ∧ ∃ u0 : Value, v = u0 ∧ Mem w X w_ [own (Kd.lent wo kCoin with1_one) 72 u0 r]) := by
  have HM := Mem.startX hX hXn hXl
  refine calls_run (N := 36) Tryz.func50 rfl rfl rfl rfl ?_
  unfold spec_l4Add_v2.f at H
  refine run_seq ?_
  refine run_region rfl ?_
  refine od rfl rfl rfl rfl (does_box (cs := [.int .i64 x1.fRef.fTx, .int .i64 x1.fRef.fAt, .int .i64 x1.fOut.fValue, p1_0, .int .i64 x1.fOut.fRule.fNeed, .int .i64 x1.fOut.fRule.fAfter, .int .i64 x1.fHeight, .bool x1.fMined]) rfl rfl rfl HM) ?_
  rintro _ w3343 ⟨b3340, rfl, HM⟩
  refine ox rfl rfl rfl rfl (ex_assign rfl rfl) ?_
  refine ops_nil (at_then (run_seq ?_))
  refine run_region rfl ?_
  refine ox rfl rfl rfl rfl (ex_assign rfl rfl) ?_
  refine ops_nil (at_then ?_)
  obtain ⟨o3358, ho3359, H⟩ := bind_some H
  refine run_mid (fun ρ_ w_ => ∃ a3357 : Int, a3357 = o3358 ∧ ρ_ = [(0, p0), (3, .pointer (some ⟨b3340, 0, none⟩)), (5, .int .i64 a3357)] ∧ Mem w X w_ [own (Kd.lent wo kCoin with1_one) 72 p0 x0, box b3340 72 [.int .i64 x1.fRef.fTx, .int .i64 x1.fRef.fAt, .int .i64 x1.fOut.fValue, p1_0, .int .i64 x1.fOut.fRule.fNeed, .int .i64 x1.fOut.fRule.fAfter, .int .i64 x1.fHeight, .bool x1.fMined]]) ?_ ?_
  · clear H
    refine run_block ?_
    replace HM := HM.front 1 rfl rfl
    refine run_loop (fun k_ ρ_ w_ => ∃ a3364 : Int, spec_l4Add_v2.l0 x0 x1 k_ a3364 = some o3358 ∧ ρ_ = [(0, p0), (3, .pointer (some ⟨b3340, 0, none⟩)), (5, .int .i64 a3364)] ∧ Mem w X w_ [own (Kd.lent wo kCoin with1_one) 72 p0 x0, box b3340 72 [.int .i64 x1.fRef.fTx, .int .i64 x1.fRef.fAt, .int .i64 x1.fOut.fValue, p1_0, .int .i64 x1.fOut.fRule.fNeed, .int .i64 x1.fOut.fRule.fAfter, .int .i64 x1.fHeight, .bool x1.fMined]]) k (ρ1 := [(0, p0), (3, .pointer (some ⟨b3340, 0, none⟩)), (5, .int .i64 0)]) ⟨_, ho3359, rfl, HM⟩ (Sub.cons rfl (Sub.cons rfl (Sub.cons rfl Sub.nil))) ?_
    clear HM ho3359
    rintro k3369 _ w3370 ⟨a3364, ho3359, rfl, HM⟩
    obtain _ | k3369 := k3369
    · exact nomatch ((spec_l4Add_v2.l0_z x0 x1 a3364).symm.trans ho3359)
    replace ho3359 := (spec_l4Add_v2.l0_s x0 x1 k3369 a3364).symm.trans ho3359
    refine run_seq ?_
    refine run_seq ?_
    obtain ⟨e3371, ho3359⟩ := chk_some ho3359
    obtain ⟨t3372, h3373, ho3359⟩ := bind_some ho3359
    refine run_meet (fun ρ_ w_ => ρ_ = [(0, p0), (3, .pointer (some ⟨b3340, 0, none⟩)), (5, .int .i64 a3364), (20, .bool ((decide (a3364 < (x0.length : Int))) && t3372))] ∧ Mem w X w_ [own (Kd.lent wo kCoin with1_one) 72 p0 x0, box b3340 72 [.int .i64 x1.fRef.fTx, .int .i64 x1.fRef.fAt, .int .i64 x1.fOut.fValue, p1_0, .int .i64 x1.fOut.fRule.fNeed, .int .i64 x1.fOut.fRule.fAfter, .int .i64 x1.fHeight, .bool x1.fMined]]) ?_ ?_
    · skip
      refine run_drawf (fun w_ => Mem w X w_ [own (Kd.lent wo kCoin with1_one) 72 p0 x0, box b3340 72 [.int .i64 x1.fRef.fTx, .int .i64 x1.fRef.fAt, .int .i64 x1.fOut.fValue, p1_0, .int .i64 x1.fOut.fRule.fNeed, .int .i64 x1.fOut.fRule.fAfter, .int .i64 x1.fHeight, .bool x1.fMined]]) [(0, true), (1, true), (2, true), (3, true), (4, true), (5, true), (6, true), (7, true), (8, true), (9, true), (10, true), (11, true), (12, false), (13, true)] mixed rfl rfl (by kernel_rfl) ?_
      replace HM := HM.grow (fr_drew _)
      have hS := Mem.suf (M := []) HM
      refine dp rfl rfl rfl rfl (ex_move rfl rfl) hS ?_
      refine dp rfl rfl rfl rfl (ex_move rfl rfl) hS ?_
      refine drwp_take rfl (guard_none rfl) rfl rfl (fun w_ hS_ => (ex_len (d := kCoin) (xs := x0) rfl rfl Tryz.underlying29 ((hS_.own_rd 0 rfl).unlent (hwo.cell _ hS_.fr)))) hS ?_
      refine dp rfl rfl rfl rfl (ex_lss rfl rfl rfl) hS ?_
      refine dp rfl rfl rfl rfl (ex_move rfl rfl) hS ?_
      refine bool_cases (decide (a3364 < (x0.length : Int))) (fun hg3374 => ?_) (fun hg3374 => ?_)
      · skip
        refine drwp_take rfl (guard_on rfl rfl rfl hg3374) rfl rfl (fun w_ hS_ => (ex_move rfl rfl)) hS ?_
        refine drwp_take rfl (guard_on rfl rfl rfl hg3374) rfl rfl (fun w_ hS_ => (ex_move rfl rfl)) hS ?_
        refine drwp_take rfl (guard_on rfl rfl rfl hg3374) rfl rfl (fun w_ hS_ => (ex_indexAddr (d := kCoin) rfl rfl rfl Tryz.underlying29 tsz72 ((hS_.own_rd 0 rfl).unlent (hwo.cell _ hS_.fr)) (idx_lo (or_t e3371 hg3374)) (idx_hi (or_t e3371 hg3374)))) hS ?_
        refine drwp_take rfl (guard_on rfl rfl rfl hg3374) rfl rfl (fun w_ hS_ => (ex_fieldAddr (off' := so p0 + (a3364).toNat * 8) rfl rfl Tryz.underlying72 rfl tsz66 rfl)) hS ?_
        refine drwp_take rfl (guard_on rfl rfl rfl hg3374) rfl rfl (fun w_ hS_ => (let ⟨_, hc_, _⟩ := rd_with1 ((hS_.own_rd 0 rfl).unlent (hwo.cell _ hS_.fr)) (or_t e3371 hg3374); ex_loadN (cs := [(.int .i64 ((gt x0 a3364).fRef.fTx)), (.int .i64 ((gt x0 a3364).fRef.fAt))]) rfl rfl Tryz.underlying66 rfl tsz66 rfl (hc_.sub 0 2 rfl))) hS ?_
        refine drwp_take rfl (guard_on rfl rfl rfl hg3374) rfl rfl (fun w_ hS_ => (ex_fieldAddr (off' := 0) rfl rfl Tryz.underlying72 rfl tsz66 rfl)) hS ?_
        refine drwp_take rfl (guard_on rfl rfl rfl hg3374) rfl rfl (fun w_ hS_ => (ex_loadN (cs := [(.int .i64 x1.fRef.fTx), (.int .i64 x1.fRef.fAt)]) rfl rfl Tryz.underlying66 rfl tsz66 rfl ((hS_.box_at 1 rfl).sub 0 2 rfl))) hS ?_
        refine drwp_one rfl (guard_on rfl rfl rfl hg3374) rfl rfl (does_callk rfl callok44 rfl (spec_l4Ahead.calls (x0 := (gt x0 a3364).fRef) (x1 := x1.fRef) (cond_t hg3374 h3373))) ?_
        rintro _ w3375 ⟨rfl, hn⟩
        replace HM : Mem w X w3375 [own (Kd.lent wo kCoin with1_one) 72 p0 x0, box b3340 72 [.int .i64 x1.fRef.fTx, .int .i64 x1.fRef.fAt, .int .i64 x1.fOut.fValue, p1_0, .int .i64 x1.fOut.fRule.fNeed, .int .i64 x1.fOut.fRule.fAfter, .int .i64 x1.fHeight, .bool x1.fMined]] := HM.call hn
        have hS := Mem.suf (M := []) HM
        refine ⟨hS, ?_⟩
        refine drwp_take (v := .bool ((decide (a3364 < (x0.length : Int))) && t3372)) rfl (guard_none rfl) rfl rfl (fun w_ hS_ => (ex_pand_t rfl rfl hg3374 rfl)) hS ?_
        refine drwp_done ?_
        exact at_meet [(0, p0), (3, .pointer (some ⟨b3340, 0, none⟩)), (5, .int .i64 a3364), (20, .bool ((decide (a3364 < (x0.length : Int))) && t3372))] ⟨rfl, HM⟩ (Sub.cons rfl (Sub.cons rfl (Sub.cons rfl (Sub.cons rfl Sub.nil))))
      · skip
        refine drwp_off rfl (guard_off rfl rfl rfl hg3374) rfl rfl hS ?_
        refine drwp_off rfl (guard_off rfl rfl rfl hg3374) rfl rfl hS ?_
        refine drwp_off rfl (guard_off rfl rfl rfl hg3374) rfl rfl hS ?_
        refine drwp_off rfl (guard_off rfl rfl rfl hg3374) rfl rfl hS ?_
        refine drwp_off rfl (guard_off rfl rfl rfl hg3374) rfl rfl hS ?_
        refine drwp_off rfl (guard_off rfl rfl rfl hg3374) rfl rfl hS ?_
        refine drwp_off rfl (guard_off rfl rfl rfl hg3374) rfl rfl hS ?_
        refine drwp_off1 rfl (guard_off rfl rfl rfl hg3374) rfl rfl ⟨hS, ?_⟩
        have hg3376 : ((decide (a3364 < (x0.length : Int))) && t3372) = false := by simp only [hg3374, Bool.and_true, Bool.true_and, Bool.and_false, Bool.false_and, Bool.or_true, Bool.true_or, Bool.or_false, Bool.false_or, Bool.not_true, Bool.not_false, Bool.not_not]
        refine drwp_take (v := .bool ((decide (a3364 < (x0.length : Int))) && t3372)) rfl (guard_none rfl) rfl rfl (fun w_ hS_ => (ex_pand_f rfl rfl hg3374)) hS ?_
        refine drwp_done ?_
        exact at_meet [(0, p0), (3, .pointer (some ⟨b3340, 0, none⟩)), (5, .int .i64 a3364), (20, .bool ((decide (a3364 < (x0.length : Int))) && t3372))] ⟨rfl, HM⟩ (Sub.cons rfl (Sub.cons rfl (Sub.cons rfl (Sub.cons rfl Sub.nil))))
    · rintro _ w3377 ⟨rfl, HM⟩
      refine at_then ?_
      refine run_cond (b := ((decide (a3364 < (x0.length : Int))) && t3372)) rfl (fun hb3378 => ?_) (fun hb3378 => ?_)
      · replace ho3359 := cond_t hb3378 ho3359
        refine run_skip ?_
        refine at_then ?_
        refine run_block ?_
        refine run_region rfl ?_
        refine ox rfl rfl rfl rfl (ex_move rfl rfl) ?_
        refine ox rfl rfl rfl rfl (ex_add rfl rfl rfl) ?_
        refine ox rfl rfl rfl rfl (ex_assign rfl rfl) ?_
        refine ops_nil ?_
        refine at_block ?_
        exact at_again k3369 (ρ1 := [(0, p0), (3, .pointer (some ⟨b3340, 0, none⟩)), (5, .int .i64 (wrap64 (a3364 + 1)))]) (Nat.lt_succ_self _) ⟨_, ho3359, rfl, HM⟩ (Sub.cons rfl (Sub.cons rfl (Sub.cons rfl Sub.nil)))
      · replace ho3359 := cond_f hb3378 ho3359
        refine run_exit ?_
        refine at_then_exit ?_
        refine at_then_exit ?_
        refine at_block_exit ?_
        exact at_mid (ρ' := [(0, p0), (3, .pointer (some ⟨b3340, 0, none⟩)), (5, .int .i64 a3364)]) ⟨_, (Option.some.inj ho3359), rfl, HM⟩ (Sub.cons rfl (Sub.cons rfl (Sub.cons rfl Sub.nil)))
  · rintro _ w3379 ⟨a3357, rfl, rfl, HM⟩
    refine run_seq ?_
    obtain ⟨e3383, H⟩ := chk_some H
    obtain ⟨e3385, H⟩ := chk_some H
    refine run_region rfl ?_
    refine od rfl rfl rfl rfl (does_lit (e := 72) (cs := []) (xs := ([] : List Coin)) kCoin rfl rfl (fun _ => by kernel_rfl) rfl rfl (fun _ _ h => by have h' : _ = [] := h; subst h'; exact .nil) HM.emp) ?_
    rintro v3380 w3386 HM
    refine ox rfl rfl rfl rfl (ex_move rfl rfl) ?_
    refine ox rfl rfl rfl rfl (ex_move rfl rfl) ?_
    refine ox rfl rfl rfl rfl (ex_cutvH rfl rfl rfl Tryz.underlying29 tsz72 (cut_lo e3383) (((HM.own_rd 1 rfl).unlent (hwo.cell _ HM.fr)).cap.le (cut_hi e3383))) ?_
    replace HM := HM.front 1 rfl rfl
    replace HM := HM.front 1 rfl rfl
    replace HM := Mem.relent (d := kCoin) (d' := (Kd.lent wo kCoin with1_one)) rfl HM
    refine od rfl rfl rfl rfl (does_mv1 (k := (a3357).toNat) (Kd.lent wo kCoin with1_one) rfl rfl rfl Tryz.underlying29 tsz72 tby72 tz72 rfl rfl (cut_hi e3383) (leB_le e3385) HM) ?_
    rintro v3384 w3387 HM
    refine ox rfl rfl rfl rfl (ex_assign rfl rfl) ?_
    refine ops_nil (at_then (run_seq ?_))
    obtain ⟨e3388, H⟩ := chk_some H
    obtain ⟨e3393, H⟩ := chk_some H
    obtain ⟨e3395, H⟩ := chk_some H
    obtain ⟨e3396, H⟩ := chk_some H
    refine run_drawf (fun w_ => Mem w X w_ [box b3340 72 [.int .i64 x1.fRef.fTx, .int .i64 x1.fRef.fAt, .int .i64 x1.fOut.fValue, p1_0, .int .i64 x1.fOut.fRule.fNeed, .int .i64 x1.fOut.fRule.fAfter, .int .i64 x1.fHeight, .bool x1.fMined]]) [(0, true), (1, true), (4, true), (5, true), (6, true), (2, false), (3, false), (7, false), (8, true)] mixed rfl rfl (by kernel_rfl) ?_
    replace HM := HM.grow (fr_drew _)
    have hS := Mem.suf (M := [mvC (Kd.lent wo kCoin with1_one) 72 p0 x0 v3384 (a3357).toNat]) HM
    refine dp rfl rfl rfl rfl (ex_move rfl rfl) hS ?_
    refine drwp_take rfl (guard_none rfl) rfl rfl (fun w_ hS_ => (ex_loadN (cs := [(.int .i64 x1.fRef.fTx), (.int .i64 x1.fRef.fAt), (.int .i64 x1.fOut.fValue), p1_0, (.int .i64 x1.fOut.fRule.fNeed), (.int .i64 x1.fOut.fRule.fAfter), (.int .i64 x1.fHeight), (.bool x1.fMined)]) rfl rfl Tryz.underlying72 rfl tsz72 rfl ((hS_.box_at 0 rfl).sub 0 8 rfl))) hS ?_
    refine dp rfl rfl rfl rfl (ex_move rfl rfl) hS ?_
    refine dp rfl rfl rfl rfl (ex_move rfl rfl) hS ?_
    refine dp rfl rfl rfl rfl (ex_cutvL rfl rfl rfl Tryz.underlying29 tsz72 (HM.mv_rd 0 rfl) e3388) hS ?_
    refine drwp_one rfl (guard_none rfl) rfl rfl (does_lit (e := 72) (cs := [.int .i64 x1.fRef.fTx, .int .i64 x1.fRef.fAt, .int .i64 x1.fOut.fValue, p1_0, .int .i64 x1.fOut.fRule.fNeed, .int .i64 x1.fOut.fRule.fAfter, .int .i64 x1.fHeight, .bool x1.fMined]) (xs := ([x1] : List Coin)) (Kd.lent wo kCoin with1_one) rfl rfl (fun _ => by kernel_rfl) rfl rfl (fun _ _ h => by have h' : _ = [] := h; subst h'; exact (Elems.cons (d := (Kd.lent wo kCoin with1_one)) (f := []) ⟨⟨_, rfl, hp1_0⟩, rfl⟩ .nil)) HM.emp) ?_
    rintro v3389 w3398 HM
    have hS := Mem.suf (M := [own (Kd.lent wo kCoin with1_one) 72 v3389 ([x1] : List Coin), mvC (Kd.lent wo kCoin with1_one) 72 p0 x0 v3384 (a3357).toNat]) HM
    refine ⟨hS, ?_⟩
    replace HM := HM.front 1 rfl rfl
    refine drwp_one rfl (guard_none rfl) rfl rfl (does_mvA (k := (a3357).toNat) (Kd.lent wo kCoin with1_one) rfl rfl rfl Tryz.underlying29 tsz72 tby72 tz72 rfl rfl (leB_le e3393) HM) ?_
    rintro v3392 w3399 HM
    have hS := Mem.suf (M := [mvC2 (Kd.lent wo kCoin with1_one) 72 p0 x0 v3392 (a3357).toNat ([x1] : List Coin)]) HM
    refine ⟨hS, ?_⟩
    refine drwp_one rfl (guard_none rfl) rfl rfl (does_mv3 (j := (a3357).toNat) (Kd.lent wo kCoin with1_one) rfl rfl rfl Tryz.underlying29 tsz72 tby72 tz72 rfl rfl (of_decide_eq_true e3396) (cut_hi e3388) (leB_le e3395) HM) ?_
    rintro v3394 w3400 HM
    have hS := Mem.suf (M := [own (Kd.lent wo kCoin with1_one) 72 v3394 (x0.take (a3357).toNat ++ ([x1] : List Coin) ++ x0.drop (a3357).toNat)]) HM
    refine ⟨hS, ?_⟩
    refine dp rfl rfl rfl rfl (ex_assign rfl rfl) hS ?_
    refine drwp_done ?_
    refine at_then ?_
    refine run_ret ?_
    replace HM := (HM.front 1 rfl rfl).drop
    have hR := Option.some.inj H
    subst hR
    exact at_ret1 rfl rfl ⟨_, rfl, _, rfl, HM⟩

def spec_l5Back.l0 (x0 : List Coin) (x1 : Int) : Nat → (List Coin) → Int → Option ((List Coin))
  | 0, _, _ => none
  | k + 1, a3532, a3534 => (bif (decide (a3534 < (x0.length : Int))) then (chk (idxOk a3534 x0.length) (bif (((gt x0 a3534).fRef.fTx) != x1) then (chk (idxOk a3534 x0.length) (chk (leB ((a3532.length + ([(gt x0 a3534)] : List Coin).length) * 80) 140737488355328) (spec_l5Back.l0 x0 x1 k (a3532 ++ ([(gt x0 a3534)] : List Coin)) (wrap64 (a3534 + 1))))) else spec_l5Back.l0 x0 x1 k a3532 (wrap64 (a3534 + 1)))) else some a3532)
theorem spec_l5Back.l0_z (x0 : List Coin) (x1 : Int) (a3532 : List Coin) (a3534 : Int) : spec_l5Back.l0 x0 x1 0 a3532 a3534 = none := rfl
theorem spec_l5Back.l0_s (x0 : List Coin) (x1 : Int) (k : Nat) (a3532 : List Coin) (a3534 : Int) : spec_l5Back.l0 x0 x1 (k + 1) a3532 a3534 = (bif (decide (a3534 < (x0.length : Int))) then (chk (idxOk a3534 x0.length) (bif (((gt x0 a3534).fRef.fTx) != x1) then (chk (idxOk a3534 x0.length) (chk (leB ((a3532.length + ([(gt x0 a3534)] : List Coin).length) * 80) 140737488355328) (spec_l5Back.l0 x0 x1 k (a3532 ++ ([(gt x0 a3534)] : List Coin)) (wrap64 (a3534 + 1))))) else spec_l5Back.l0 x0 x1 k a3532 (wrap64 (a3534 + 1)))) else some a3532) := rfl
def spec_l5Back.l1 (x2 : List Coin) : Nat → (List Coin) → Int → Option ((List Coin))
  | 0, _, _ => none
  | k + 1, a3642, a3644 => (bif (decide (a3644 < (x2.length : Int))) then (chk (idxOk a3644 x2.length) ((spec_l4Add_v2.f k a3642 (gt x2 a3644)).bind fun t3667 => spec_l5Back.l1 x2 k t3667 (wrap64 (a3644 + 1)))) else some a3642)
theorem spec_l5Back.l1_z (x2 : List Coin) (a3642 : List Coin) (a3644 : Int) : spec_l5Back.l1 x2 0 a3642 a3644 = none := rfl
theorem spec_l5Back.l1_s (x2 : List Coin) (k : Nat) (a3642 : List Coin) (a3644 : Int) : spec_l5Back.l1 x2 (k + 1) a3642 a3644 = (bif (decide (a3644 < (x2.length : Int))) then (chk (idxOk a3644 x2.length) ((spec_l4Add_v2.f k a3642 (gt x2 a3644)).bind fun t3667 => spec_l5Back.l1 x2 k t3667 (wrap64 (a3644 + 1)))) else some a3642) := rfl
def spec_l5Back.f (k : Nat) (x0 : List Coin) (x1 : Int) (x2 : List Coin) : Option ((List Coin)) := ((spec_l5Back.l0 x0 x1 k ([] : List Coin) 0).bind (fun a3511 => ((spec_l5Back.l1 x2 k a3511 0).bind (fun a3622 => ((spec_l4Copy.f k a3622).bind fun t3679 => some t3679)))))
theorem spec_l5Back.calls {k : Nat} {x0 : List Coin} {x1 : Int} {x2 : List Coin} {p0 : Value} {p2 : Value} {w : World} (hp0 : RdS kCoin w p0 x0) (hp2 : RdS kCoin w p2 x2) {r : (List Coin)} (H : spec_l5Back.f k x0 x1 x2 = some r) :
    Calls Tryz.prog 26 ([p0, .int .i64 x1, p2] : List Value).toArray w (fun e w_ => ∃ v, e = .returned v ∧ ∃ u0 : Value, v = u0 ∧ Mem w [] w_ [own kCoin 72 u0 r]) := by
  have HM := Mem.start w
  refine calls_run (N := 46) Tryz.func26 rfl rfl rfl rfl ?_
  unfold spec_l5Back.f at H
  refine run_seq ?_
  refine run_region rfl ?_
  refine ox rfl rfl rfl rfl (ex_assign rfl rfl) ?_
  refine ops_nil (at_then (run_seq ?_))
  refine run_region rfl ?_
  refine od rfl rfl rfl rfl (does_lit (e := 72) (cs := []) (xs := ([] : List Coin)) kCoin rfl rfl (fun _ => by kernel_rfl) rfl rfl (fun _ _ h => by have h' : _ = [] := h; subst h'; exact .nil) HM.emp) ?_
  rintro v3454 w3457 HM
  refine ox rfl rfl rfl rfl (ex_assign rfl rfl) ?_
  refine ops_nil (at_then ?_)
  obtain ⟨o3513, ho3514, H⟩ := bind_some H
  refine run_mid (fun ρ_ w_ => ∃ v3510 : Value, ∃ a3511 : List Coin, a3511 = o3513 ∧ ρ_ = [(2, p2), (7, v3510)] ∧ Mem w [] w_ [own (Kd.lent w kCoin with1_one) 72 v3510 a3511]) ?_ ?_
  · clear H
    refine run_seq ?_
    refine run_region rfl ?_
    refine ox rfl rfl rfl rfl (ex_assign rfl rfl) ?_
    refine ops_nil (at_then ?_)
    refine run_block ?_
    replace HM := Mem.relent (d := kCoin) (d' := (Kd.lent w kCoin with1_one)) rfl HM
    refine run_loop (fun k_ ρ_ w_ => ∃ v3531 : Value, ∃ a3532 : List Coin, ∃ a3534 : Int, spec_l5Back.l0 x0 x1 k_ a3532 a3534 = some o3513 ∧ ρ_ = [(0, p0), (1, .int .i64 x1), (2, p2), (7, v3531), (8, .int .i64 a3534)] ∧ Mem w [] w_ [own (Kd.lent w kCoin with1_one) 72 v3531 a3532]) k (ρ1 := [(0, p0), (1, .int .i64 x1), (2, p2), (7, v3454), (8, .int .i64 0)]) ⟨_, _, _, ho3514, rfl, HM⟩ (Sub.cons rfl (Sub.cons rfl (Sub.cons rfl (Sub.cons rfl (Sub.cons rfl Sub.nil))))) ?_
    clear HM ho3514
    rintro k3551 _ w3552 ⟨v3531, a3532, a3534, ho3514, rfl, HM⟩
    obtain _ | k3551 := k3551
    · exact nomatch ((spec_l5Back.l0_z x0 x1 a3532 a3534).symm.trans ho3514)
    replace ho3514 := (spec_l5Back.l0_s x0 x1 k3551 a3532 a3534).symm.trans ho3514
    refine run_seq ?_
    refine run_seq ?_
    refine run_region rfl ?_
    refine ox rfl rfl rfl rfl (ex_move rfl rfl) ?_
    refine ox rfl rfl rfl rfl (ex_move rfl rfl) ?_
    refine ox rfl rfl rfl rfl (ex_len (d := kCoin) (xs := x0) rfl rfl Tryz.underlying29 hp0) ?_
    refine ox rfl rfl rfl rfl (ex_lss rfl rfl rfl) ?_
    refine ops_nil (at_then ?_)
    refine run_cond (b := (decide (a3534 < (x0.length : Int)))) rfl (fun hb3553 => ?_) (fun hb3553 => ?_)
    · replace ho3514 := cond_t hb3553 ho3514
      refine run_skip ?_
      refine at_then ?_
      refine run_seq ?_
      refine run_block ?_
      refine run_seq ?_
      obtain ⟨e3554, ho3514⟩ := chk_some ho3514
      refine run_region rfl ?_
      refine ox rfl rfl rfl rfl (ex_move rfl rfl) ?_
      refine ox rfl rfl rfl rfl (ex_move rfl rfl) ?_
      obtain ⟨kv3556, hc3555, hk3557⟩ : ∃ u, CellsAt _ (sb p0) (so p0 + (a3534).toNat * 8) [(.int .i64 ((gt x0 a3534).fRef.fTx)), (.int .i64 ((gt x0 a3534).fRef.fAt)), (.int .i64 ((gt x0 a3534).fOut.fValue)), u, (.int .i64 ((gt x0 a3534).fOut.fRule.fNeed)), (.int .i64 ((gt x0 a3534).fOut.fRule.fAfter)), (.int .i64 ((gt x0 a3534).fHeight)), (.bool ((gt x0 a3534).fMined))] ∧ RdS kInt _ u ((gt x0 a3534).fOut.fRule.fKeys) := rd_with1 hp0 e3554
      refine ox rfl rfl rfl rfl (ex_indexAddr (d := kCoin) rfl rfl rfl Tryz.underlying29 tsz72 hp0 (idx_lo e3554) (idx_hi e3554)) ?_
      refine ox rfl rfl rfl rfl (ex_fieldAddr (off' := so p0 + (a3534).toNat * 8) rfl rfl Tryz.underlying72 rfl tsz66 rfl) ?_
      refine ox rfl rfl rfl rfl (ex_fieldAddr (off' := so p0 + (a3534).toNat * 8) rfl rfl Tryz.underlying66 rfl tsz2 rfl) ?_
      refine ox rfl rfl rfl rfl (ex_load1 rfl rfl Tryz.underlying2 rfl ((HM.at_ hc3555) 0 _ rfl)) ?_
      refine ox rfl rfl rfl rfl (ex_move rfl rfl) ?_
      refine ox rfl rfl rfl rfl (ex_neq rfl rfl rfl) ?_
      refine ops_nil (at_then ?_)
      refine run_cond (b := (((gt x0 a3534).fRef.fTx) != x1)) rfl (fun hb3558 => ?_) (fun hb3558 => ?_)
      · replace ho3514 := cond_t hb3558 ho3514
        obtain ⟨e3559, ho3514⟩ := chk_some ho3514
        obtain ⟨e3566, ho3514⟩ := chk_some ho3514
        refine run_region rfl ?_
        refine ox rfl rfl rfl rfl (ex_move rfl rfl) ?_
        refine ox rfl rfl rfl rfl (ex_move rfl rfl) ?_
        refine ox rfl rfl rfl rfl (ex_move rfl rfl) ?_
        obtain ⟨kv3561, hc3560, hk3562⟩ : ∃ u, CellsAt _ (sb p0) (so p0 + (a3534).toNat * 8) [(.int .i64 ((gt x0 a3534).fRef.fTx)), (.int .i64 ((gt x0 a3534).fRef.fAt)), (.int .i64 ((gt x0 a3534).fOut.fValue)), u, (.int .i64 ((gt x0 a3534).fOut.fRule.fNeed)), (.int .i64 ((gt x0 a3534).fOut.fRule.fAfter)), (.int .i64 ((gt x0 a3534).fHeight)), (.bool ((gt x0 a3534).fMined))] ∧ RdS kInt _ u ((gt x0 a3534).fOut.fRule.fKeys) := rd_with1 hp0 e3559
        refine ox rfl rfl rfl rfl (ex_indexAddr (d := kCoin) rfl rfl rfl Tryz.underlying29 tsz72 hp0 (idx_lo e3559) (idx_hi e3559)) ?_
        refine ox rfl rfl rfl rfl (ex_loadN (cs := [(.int .i64 ((gt x0 a3534).fRef.fTx)), (.int .i64 ((gt x0 a3534).fRef.fAt)), (.int .i64 ((gt x0 a3534).fOut.fValue)), kv3561, (.int .i64 ((gt x0 a3534).fOut.fRule.fNeed)), (.int .i64 ((gt x0 a3534).fOut.fRule.fAfter)), (.int .i64 ((gt x0 a3534).fHeight)), (.bool ((gt x0 a3534).fMined))]) rfl rfl Tryz.underlying72 rfl tsz72 rfl ((HM.at_ hc3560).sub 0 8 rfl)) ?_
        refine od rfl rfl rfl rfl (does_lit (e := 72) (cs := [.int .i64 ((gt x0 a3534).fRef.fTx), .int .i64 ((gt x0 a3534).fRef.fAt), .int .i64 ((gt x0 a3534).fOut.fValue), kv3561, .int .i64 ((gt x0 a3534).fOut.fRule.fNeed), .int .i64 ((gt x0 a3534).fOut.fRule.fAfter), .int .i64 ((gt x0 a3534).fHeight), .bool ((gt x0 a3534).fMined)]) (xs := ([(gt x0 a3534)] : List Coin)) (Kd.lent w kCoin with1_one) rfl rfl (fun _ => by kernel_rfl) rfl rfl (fun _ _ h => by have h' : _ = [] := h; subst h'; exact (Elems.cons (d := (Kd.lent w kCoin with1_one)) (f := []) ⟨⟨_, rfl, hk3562⟩, rfl⟩ .nil)) HM.emp) ?_
        rintro v3563 w3569 HM
        replace HM := HM.front 1 rfl rfl
        refine od rfl rfl rfl rfl (does_append (Kd.lent w kCoin with1_one) rfl rfl rfl Tryz.underlying29 tsz72 rfl tby72 tz72 rfl rfl (leB_le e3566) HM) ?_
        rintro v3567 w3570 HM
        refine ox rfl rfl rfl rfl (ex_assign rfl rfl) ?_
        refine ops_nil ?_
        refine at_block ?_
        refine at_then ?_
        refine run_region rfl ?_
        refine ox rfl rfl rfl rfl (ex_move rfl rfl) ?_
        refine ox rfl rfl rfl rfl (ex_add rfl rfl rfl) ?_
        refine ox rfl rfl rfl rfl (ex_assign rfl rfl) ?_
        refine ops_nil ?_
        exact at_again k3551 (ρ1 := [(0, p0), (1, .int .i64 x1), (2, p2), (7, v3567), (8, .int .i64 (wrap64 (a3534 + 1)))]) (Nat.lt_succ_self _) ⟨_, _, _, ho3514, rfl, HM⟩ (Sub.cons rfl (Sub.cons rfl (Sub.cons rfl (Sub.cons rfl (Sub.cons rfl Sub.nil)))))
      · replace ho3514 := cond_f hb3558 ho3514
        refine run_skip ?_
        refine at_block ?_
        refine at_then ?_
        refine run_region rfl ?_
        refine ox rfl rfl rfl rfl (ex_move rfl rfl) ?_
        refine ox rfl rfl rfl rfl (ex_add rfl rfl rfl) ?_
        refine ox rfl rfl rfl rfl (ex_assign rfl rfl) ?_
        refine ops_nil ?_
        exact at_again k3551 (ρ1 := [(0, p0), (1, .int .i64 x1), (2, p2), (7, v3531), (8, .int .i64 (wrap64 (a3534 + 1)))]) (Nat.lt_succ_self _) ⟨_, _, _, ho3514, rfl, HM⟩ (Sub.cons rfl (Sub.cons rfl (Sub.cons rfl (Sub.cons rfl (Sub.cons rfl Sub.nil)))))
    · replace ho3514 := cond_f hb3553 ho3514
      refine run_exit ?_
      refine at_then_exit ?_
      refine at_then_exit ?_
      refine at_block_exit ?_
      exact at_mid (ρ' := [(2, p2), (7, v3531)]) ⟨_, _, (Option.some.inj ho3514), rfl, HM⟩ (Sub.cons rfl (Sub.cons rfl Sub.nil))
  · rintro _ w3571 ⟨v3510, a3511, rfl, rfl, HM⟩
    obtain ⟨o3624, ho3625, H⟩ := bind_some H
    refine run_mid (fun ρ_ w_ => ∃ v3621 : Value, ∃ a3622 : List Coin, a3622 = o3624 ∧ ρ_ = [(7, v3621)] ∧ Mem w [] w_ [own (Kd.lent w kCoin with1_one) 72 v3621 a3622]) ?_ ?_
    · clear H
      refine run_seq ?_
      refine run_region rfl ?_
      refine ox rfl rfl rfl rfl (ex_assign rfl rfl) ?_
      refine ops_nil (at_then ?_)
      refine run_block ?_
      refine run_loop (fun k_ ρ_ w_ => ∃ v3641 : Value, ∃ a3642 : List Coin, ∃ a3644 : Int, spec_l5Back.l1 x2 k_ a3642 a3644 = some o3624 ∧ ρ_ = [(2, p2), (7, v3641), (9, .int .i64 a3644)] ∧ Mem w [] w_ [own (Kd.lent w kCoin with1_one) 72 v3641 a3642]) k (ρ1 := [(2, p2), (7, v3510), (9, .int .i64 0)]) ⟨_, _, _, ho3625, rfl, HM⟩ (Sub.cons rfl (Sub.cons rfl (Sub.cons rfl Sub.nil))) ?_
      clear HM ho3625
      rintro k3660 _ w3661 ⟨v3641, a3642, a3644, ho3625, rfl, HM⟩
      obtain _ | k3660 := k3660
      · exact nomatch ((spec_l5Back.l1_z x2 a3642 a3644).symm.trans ho3625)
      replace ho3625 := (spec_l5Back.l1_s x2 k3660 a3642 a3644).symm.trans ho3625
      refine run_seq ?_
      refine run_seq ?_
      refine run_region rfl ?_
      refine ox rfl rfl rfl rfl (ex_move rfl rfl) ?_
      refine ox rfl rfl rfl rfl (ex_move rfl rfl) ?_
      refine ox rfl rfl rfl rfl (ex_len (d := kCoin) (xs := x2) rfl rfl Tryz.underlying29 hp2) ?_
      refine ox rfl rfl rfl rfl (ex_lss rfl rfl rfl) ?_
      refine ops_nil (at_then ?_)
      refine run_cond (b := (decide (a3644 < (x2.length : Int)))) rfl (fun hb3662 => ?_) (fun hb3662 => ?_)
      · replace ho3625 := cond_t hb3662 ho3625
        refine run_skip ?_
        refine at_then ?_
        refine run_seq ?_
        refine run_block ?_
        obtain ⟨e3663, ho3625⟩ := chk_some ho3625
        obtain ⟨t3667, h3668, ho3625⟩ := bind_some ho3625
        refine run_region rfl ?_
        refine ox rfl rfl rfl rfl (ex_move rfl rfl) ?_
        refine ox rfl rfl rfl rfl (ex_move rfl rfl) ?_
        refine ox rfl rfl rfl rfl (ex_move rfl rfl) ?_
        obtain ⟨kv3665, hc3664, hk3666⟩ : ∃ u, CellsAt _ (sb p2) (so p2 + (a3644).toNat * 8) [(.int .i64 ((gt x2 a3644).fRef.fTx)), (.int .i64 ((gt x2 a3644).fRef.fAt)), (.int .i64 ((gt x2 a3644).fOut.fValue)), u, (.int .i64 ((gt x2 a3644).fOut.fRule.fNeed)), (.int .i64 ((gt x2 a3644).fOut.fRule.fAfter)), (.int .i64 ((gt x2 a3644).fHeight)), (.bool ((gt x2 a3644).fMined))] ∧ RdS kInt _ u ((gt x2 a3644).fOut.fRule.fKeys) := rd_with1 hp2 e3663
        refine ox rfl rfl rfl rfl (ex_indexAddr (d := kCoin) rfl rfl rfl Tryz.underlying29 tsz72 hp2 (idx_lo e3663) (idx_hi e3663)) ?_
        refine ox rfl rfl rfl rfl (ex_loadN (cs := [(.int .i64 ((gt x2 a3644).fRef.fTx)), (.int .i64 ((gt x2 a3644).fRef.fAt)), (.int .i64 ((gt x2 a3644).fOut.fValue)), kv3665, (.int .i64 ((gt x2 a3644).fOut.fRule.fNeed)), (.int .i64 ((gt x2 a3644).fOut.fRule.fAfter)), (.int .i64 ((gt x2 a3644).fHeight)), (.bool ((gt x2 a3644).fMined))]) rfl rfl Tryz.underlying72 rfl tsz72 rfl ((HM.at_ hc3664).sub 0 8 rfl)) ?_
        obtain ⟨F3671, hF3672, hFn3673, hFl3674, HMh3675, hcl3676⟩ := HM.hideO (Ms := [own (Kd.lent w kCoin with1_one) 72 v3641 a3642]) (olds_refl _)
        refine od rfl rfl rfl rfl (does_callk rfl callok50 rfl (spec_l4Add_v2.calls (x0 := a3642) (x1 := (gt x2 a3644)) HMh3675 hF3672 hFn3673 hFl3674 hk3666 h3668)) ?_
        rintro u3669 w3677 ⟨_, rfl, hn⟩
        replace HM : Mem w [] w3677 [own (Kd.lent w kCoin with1_one) 72 u3669 t3667] := hcl3676 _ _ hn
        refine ox rfl rfl rfl rfl (ex_assign rfl rfl) ?_
        refine ops_nil ?_
        refine at_block ?_
        refine at_then ?_
        refine run_region rfl ?_
        refine ox rfl rfl rfl rfl (ex_move rfl rfl) ?_
        refine ox rfl rfl rfl rfl (ex_add rfl rfl rfl) ?_
        refine ox rfl rfl rfl rfl (ex_assign rfl rfl) ?_
        refine ops_nil ?_
        exact at_again k3660 (ρ1 := [(2, p2), (7, u3669), (9, .int .i64 (wrap64 (a3644 + 1)))]) (Nat.lt_succ_self _) ⟨_, _, _, ho3625, rfl, HM⟩ (Sub.cons rfl (Sub.cons rfl (Sub.cons rfl Sub.nil)))
      · replace ho3625 := cond_f hb3662 ho3625
        refine run_exit ?_
        refine at_then_exit ?_
        refine at_then_exit ?_
        refine at_block_exit ?_
        exact at_mid (ρ' := [(7, v3641)]) ⟨_, _, (Option.some.inj ho3625), rfl, HM⟩ (Sub.cons rfl Sub.nil)
    · rintro _ w3678 ⟨v3621, a3622, rfl, rfl, HM⟩
      refine run_seq ?_
      obtain ⟨t3679, h3680, H⟩ := bind_some H
      refine run_region rfl ?_
      refine ox rfl rfl rfl rfl (ex_move rfl rfl) ?_
      refine od rfl rfl rfl rfl (does_callk rfl callok48 rfl (spec_l4Copy.calls (x0 := a3622) ((HM.own_rd 0 rfl).unlent (HM.old)) h3680)) ?_
      rintro u3681 w3683 ⟨_, rfl, hn⟩
      replace HM : Mem w [] w3683 [own kCoin 72 u3681 t3679, own (Kd.lent w kCoin with1_one) 72 v3621 a3622] := HM.call hn
      refine ox rfl rfl rfl rfl (ex_assign rfl rfl) ?_
      refine ops_nil (at_then ?_)
      refine run_ret ?_
      replace HM := (HM.front 1 rfl rfl).drop
      have hR := Option.some.inj H
      subst hR
      exact at_ret1 rfl rfl ⟨_, rfl, _, rfl, HM⟩

def spec_UndoTx.l0 (x0 : List Coin) (x1 : Tx) : Nat → Int → Option (CoinsResult ⊕ Unit)
  | 0, _ => none
  | k + 1, a3785 => (bif (decide (a3785 < (x1.fIns.length : Int))) then (chk (idxOk a3785 x1.fIns.length) ((spec_l4At.f k x0 (gt x1.fIns a3785)).bind fun t3797 => (bif (decide (0 ≤ t3797)) then some (.inl (⟨7, ([] : List Coin)⟩ : CoinsResult)) else spec_UndoTx.l0 x0 x1 k (wrap64 (a3785 + 1))))) else some (.inr ()))
theorem spec_UndoTx.l0_z (x0 : List Coin) (x1 : Tx) (a3785 : Int) : spec_UndoTx.l0 x0 x1 0 a3785 = none := rfl
theorem spec_UndoTx.l0_s (x0 : List Coin) (x1 : Tx) (k : Nat) (a3785 : Int) : spec_UndoTx.l0 x0 x1 (k + 1) a3785 = (bif (decide (a3785 < (x1.fIns.length : Int))) then (chk (idxOk a3785 x1.fIns.length) ((spec_l4At.f k x0 (gt x1.fIns a3785)).bind fun t3797 => (bif (decide (0 ≤ t3797)) then some (.inl (⟨7, ([] : List Coin)⟩ : CoinsResult)) else spec_UndoTx.l0 x0 x1 k (wrap64 (a3785 + 1))))) else some (.inr ())) := rfl
def spec_UndoTx.f (k : Nat) (x0 : List Coin) (x1 : Tx) (x2 : Int) (x3 : List Coin) : Option CoinsResult := ((spec_l4Fault.f k x0).bind fun t3700 => (bif (t3700 != 0) then some (⟨t3700, ([] : List Coin)⟩ : CoinsResult) else ((spec_l4Fault.f k x3).bind fun t3709 => (bif (t3709 != 0) then some (⟨t3709, ([] : List Coin)⟩ : CoinsResult) else ((spec_l3Fault.f k x1).bind fun t3718 => (bif (t3718 != 0) then some (⟨t3718, ([] : List Coin)⟩ : CoinsResult) else ((spec_l1In.f k x2 1 60).bind fun t3727 => (bif !t3727 then some (⟨3, ([] : List Coin)⟩ : CoinsResult) else ((spec_l5Spent.f k x3 x1).bind fun t3738 => (bif ((!t3738.2) || ((t3738.1.length : Int) != (x3.length : Int))) then some (⟨1, ([] : List Coin)⟩ : CoinsResult) else ((spec_l5Made.f k x0 x1 x2).bind fun t3752 => (bif !t3752 then some (⟨4, ([] : List Coin)⟩ : CoinsResult) else ((spec_UndoTx.l0 x0 x1 k 0).bind fun o3777 => thn o3777 (fun r => some r) (fun _ => ((spec_l5Back.f k x0 x2 x3).bind fun t3804 => (bif (decide (40 < (t3804.length : Int))) then some (⟨2, ([] : List Coin)⟩ : CoinsResult) else some (⟨0, t3804⟩ : CoinsResult)))))))))))))))))
theorem spec_UndoTx.calls {k : Nat} {x0 : List Coin} {x1 : Tx} {x2 : Int} {x3 : List Coin} {p0 : Value} {p1_0 : Value} {p1_1 : Value} {p3 : Value} {w : World} (hp0 : RdS kCoin w p0 x0) (hp1_0 : RdS kRef w p1_0 x1.fIns) (hp1_1 : RdS kOut w p1_1 x1.fOuts) (hp3 : RdS kCoin w p3 x3) {r : CoinsResult} (H : spec_UndoTx.f k x0 x1 x2 x3 = some r) :
    Calls Tryz.prog 6 ([p0, .agg #[(.int .i64 x1.fKind), (.int .i64 x1.fMember), p1_0, p1_1], .int .i64 x2, p3] : List Value).toArray w (fun e w_ => ∃ v, e = .returned v ∧ ∃ u0 : Value, v = (.agg #[.int .i64 r.fCode, u0]) ∧ Mem w [] w_ [own kCoin 72 u0 r.fCoins]) := by
  have HM := Mem.start w
  refine calls_run (N := 83) Tryz.func6 rfl rfl rfl rfl ?_
  unfold spec_UndoTx.f at H
  refine run_seq ?_
  refine run_region rfl ?_
  refine od rfl rfl rfl rfl (does_box (cs := [.int .i64 x1.fKind, .int .i64 x1.fMember, p1_0, p1_1]) rfl rfl rfl HM) ?_
  rintro _ w3695 ⟨b3689, rfl, HM⟩
  refine od rfl rfl rfl rfl (does_alloc (cs := [.int .i64 0, .slice none 0 0]) rfl tz31 rfl HM) ?_
  rintro _ w3696 ⟨b3692, rfl, HM⟩
  refine ops_nil (at_then (run_seq ?_))
  refine run_seq ?_
  obtain ⟨t3700, h3701, H⟩ := bind_some H
  refine run_region rfl ?_
  refine ox rfl rfl rfl rfl (ex_move rfl rfl) ?_
  refine od rfl rfl rfl rfl (does_callk rfl callok20 rfl (spec_l4Fault.calls (x0 := x0) (HM.rd hp0) h3701)) ?_
  rintro _ w3702 ⟨rfl, hn⟩
  replace HM : Mem w [] w3702 [box b3692 31 [.int .i64 0, .slice none 0 0], box b3689 37 [.int .i64 x1.fKind, .int .i64 x1.fMember, p1_0, p1_1]] := HM.call hn
  refine ox rfl rfl rfl rfl (ex_assign rfl rfl) ?_
  refine ops_nil (at_then (run_seq ?_))
  refine run_region rfl ?_
  refine ox rfl rfl rfl rfl (ex_move rfl rfl) ?_
  refine ox rfl rfl rfl rfl (ex_neq rfl rfl rfl) ?_
  refine ops_nil (at_then ?_)
  refine run_cond (b := (t3700 != 0)) rfl (fun hb3703 => ?_) (fun hb3703 => ?_)
  · replace H := cond_t hb3703 H
    refine run_seq ?_
    refine run_region rfl ?_
    refine ox rfl rfl rfl rfl (ex_move rfl rfl) ?_
    refine ox rfl rfl rfl rfl (ex_build (cells := #[(.int .i64 t3700), (.slice none 0 0)]) rfl rfl (by kernel_rfl)) ?_
    refine odS rfl rfl rfl (does_store (vs := [.int .i64 t3700, .slice none 0 0]) (cs' := [.int .i64 t3700, .slice none 0 0]) rfl rfl rfl rfl tsz31 (Ones.int (Ones.sl Ones.nil)) rfl rfl HM) ?_
    rintro w3704 HM
    refine ops_nil (at_then ?_)
    refine run_ret ?_
    refine at_then_ret ?_
    replace HM := HM.empty kCoin 72 none
    replace HM := (HM.front 2 rfl rfl).drop
    replace HM := HM.front 1 rfl rfl
    have hcb0 := HM.box_at 0 rfl
    replace HM := (HM.front 0 rfl rfl).drop
    have hR := Option.some.inj H
    subst hR
    exact at_retN rfl rfl Tryz.underlying31 rfl tsz31 rfl hcb0 ⟨_, rfl, _, rfl, HM⟩
  · replace H := cond_f hb3703 H
    refine run_skip ?_
    refine at_then ?_
    refine run_seq ?_
    refine run_seq ?_
    obtain ⟨t3709, h3710, H⟩ := bind_some H
    refine run_region rfl ?_
    refine ox rfl rfl rfl rfl (ex_move rfl rfl) ?_
    refine od rfl rfl rfl rfl (does_callk rfl callok20 rfl (spec_l4Fault.calls (x0 := x3) (HM.rd hp3) h3710)) ?_
    rintro _ w3711 ⟨rfl, hn⟩
    replace HM : Mem w [] w3711 [box b3692 31 [.int .i64 0, .slice none 0 0], box b3689 37 [.int .i64 x1.fKind, .int .i64 x1.fMember, p1_0, p1_1]] := HM.call hn
    refine ox rfl rfl rfl rfl (ex_assign rfl rfl) ?_
    refine ops_nil (at_then (run_seq ?_))
    refine run_region rfl ?_
    refine ox rfl rfl rfl rfl (ex_move rfl rfl) ?_
    refine ox rfl rfl rfl rfl (ex_neq rfl rfl rfl) ?_
    refine ops_nil (at_then ?_)
    refine run_cond (b := (t3709 != 0)) rfl (fun hb3712 => ?_) (fun hb3712 => ?_)
    · replace H := cond_t hb3712 H
      refine run_seq ?_
      refine run_region rfl ?_
      refine ox rfl rfl rfl rfl (ex_move rfl rfl) ?_
      refine ox rfl rfl rfl rfl (ex_build (cells := #[(.int .i64 t3709), (.slice none 0 0)]) rfl rfl (by kernel_rfl)) ?_
      refine odS rfl rfl rfl (does_store (vs := [.int .i64 t3709, .slice none 0 0]) (cs' := [.int .i64 t3709, .slice none 0 0]) rfl rfl rfl rfl tsz31 (Ones.int (Ones.sl Ones.nil)) rfl rfl HM) ?_
      rintro w3713 HM
      refine ops_nil (at_then ?_)
      refine run_ret ?_
      refine at_then_ret ?_
      replace HM := HM.empty kCoin 72 none
      replace HM := (HM.front 2 rfl rfl).drop
      replace HM := HM.front 1 rfl rfl
      have hcb0 := HM.box_at 0 rfl
      replace HM := (HM.front 0 rfl rfl).drop
      have hR := Option.some.inj H
      subst hR
      exact at_retN rfl rfl Tryz.underlying31 rfl tsz31 rfl hcb0 ⟨_, rfl, _, rfl, HM⟩
    · replace H := cond_f hb3712 H
      refine run_skip ?_
      refine at_then ?_
      refine run_seq ?_
      refine run_seq ?_
      obtain ⟨t3718, h3719, H⟩ := bind_some H
      refine run_region rfl ?_
      refine od rfl rfl rfl rfl (does_callk rfl callok21 rfl (spec_l3Fault.calls (x0 := x1) (HM.box_at 1 rfl) (HM.rd hp1_0) (HM.rd hp1_1) h3719)) ?_
      rintro _ w3720 ⟨rfl, hn⟩
      replace HM : Mem w [] w3720 [box b3692 31 [.int .i64 0, .slice none 0 0], box b3689 37 [.int .i64 x1.fKind, .int .i64 x1.fMember, p1_0, p1_1]] := HM.call hn
      refine ox rfl rfl rfl rfl (ex_assign rfl rfl) ?_
      refine ops_nil (at_then (run_seq ?_))
      refine run_region rfl ?_
      refine ox rfl rfl rfl rfl (ex_move rfl rfl) ?_
      refine ox rfl rfl rfl rfl (ex_neq rfl rfl rfl) ?_
      refine ops_nil (at_then ?_)
      refine run_cond (b := (t3718 != 0)) rfl (fun hb3721 => ?_) (fun hb3721 => ?_)
      · replace H := cond_t hb3721 H
        refine run_seq ?_
        refine run_region rfl ?_
        refine ox rfl rfl rfl rfl (ex_move rfl rfl) ?_
        refine ox rfl rfl rfl rfl (ex_build (cells := #[(.int .i64 t3718), (.slice none 0 0)]) rfl rfl (by kernel_rfl)) ?_
        refine odS rfl rfl rfl (does_store (vs := [.int .i64 t3718, .slice none 0 0]) (cs' := [.int .i64 t3718, .slice none 0 0]) rfl rfl rfl rfl tsz31 (Ones.int (Ones.sl Ones.nil)) rfl rfl HM) ?_
        rintro w3722 HM
        refine ops_nil (at_then ?_)
        refine run_ret ?_
        refine at_then_ret ?_
        replace HM := HM.empty kCoin 72 none
        replace HM := (HM.front 2 rfl rfl).drop
        replace HM := HM.front 1 rfl rfl
        have hcb0 := HM.box_at 0 rfl
        replace HM := (HM.front 0 rfl rfl).drop
        have hR := Option.some.inj H
        subst hR
        exact at_retN rfl rfl Tryz.underlying31 rfl tsz31 rfl hcb0 ⟨_, rfl, _, rfl, HM⟩
      · replace H := cond_f hb3721 H
        refine run_skip ?_
        refine at_then ?_
        refine run_seq ?_
        refine run_seq ?_
        obtain ⟨t3727, h3728, H⟩ := bind_some H
        refine run_region rfl ?_
        refine ox rfl rfl rfl rfl (ex_move rfl rfl) ?_
        refine od rfl rfl rfl rfl (does_callk rfl callok22 rfl (spec_l1In.calls (x0 := x2) (x1 := 1) (x2 := 60) h3728)) ?_
        rintro _ w3729 ⟨rfl, hn⟩
        replace HM : Mem w [] w3729 [box b3692 31 [.int .i64 0, .slice none 0 0], box b3689 37 [.int .i64 x1.fKind, .int .i64 x1.fMember, p1_0, p1_1]] := HM.call hn
        refine ox rfl rfl rfl rfl (ex_not rfl rfl) ?_
        refine ops_nil (at_then ?_)
        refine run_cond (b := !t3727) rfl (fun hb3730 => ?_) (fun hb3730 => ?_)
        · replace H := cond_t hb3730 H
          refine run_seq ?_
          refine run_region rfl ?_
          refine ox rfl rfl rfl rfl (ex_build (cells := #[(.int .i64 3), (.slice none 0 0)]) rfl rfl (by kernel_rfl)) ?_
          refine odS rfl rfl rfl (does_store (vs := [.int .i64 3, .slice none 0 0]) (cs' := [.int .i64 3, .slice none 0 0]) rfl rfl rfl rfl tsz31 (Ones.int (Ones.sl Ones.nil)) rfl rfl HM) ?_
          rintro w3731 HM
          refine ops_nil (at_then ?_)
          refine run_ret ?_
          refine at_then_ret ?_
          replace HM := HM.empty kCoin 72 none
          replace HM := (HM.front 2 rfl rfl).drop
          replace HM := HM.front 1 rfl rfl
          have hcb0 := HM.box_at 0 rfl
          replace HM := (HM.front 0 rfl rfl).drop
          have hR := Option.some.inj H
          subst hR
          exact at_retN rfl rfl Tryz.underlying31 rfl tsz31 rfl hcb0 ⟨_, rfl, _, rfl, HM⟩
        · replace H := cond_f hb3730 H
          refine run_skip ?_
          refine at_then ?_
          refine run_seq ?_
          refine run_seq ?_
          obtain ⟨t3738, h3739, H⟩ := bind_some H
          refine run_region rfl ?_
          refine ox rfl rfl rfl rfl (ex_move rfl rfl) ?_
          refine od rfl rfl rfl rfl (does_callk rfl callok23 rfl (spec_l5Spent.calls (x0 := x3) (x1 := x1) (HM.rd hp3) (HM.box_at 1 rfl) (HM.rd hp1_0) (HM.rd hp1_1) h3739)) ?_
          rintro _ w3742 ⟨u3740, rfl, hn⟩
          replace HM : Mem w [] w3742 [own kCoin 72 u3740 t3738.1, box b3692 31 [.int .i64 0, .slice none 0 0], box b3689 37 [.int .i64 x1.fKind, .int .i64 x1.fMember, p1_0, p1_1]] := HM.call hn
          refine ox rfl rfl rfl rfl (ex_move rfl rfl) ?_
          refine ox rfl rfl rfl rfl (ex_extract rfl rfl rfl) ?_
          refine ox rfl rfl rfl rfl (ex_extract rfl rfl rfl) ?_
          refine ox rfl rfl rfl rfl (ex_assign rfl rfl) ?_
          refine ox rfl rfl rfl rfl (ex_assign rfl rfl) ?_
          refine ops_nil (at_then (run_seq ?_))
          refine run_meet (fun ρ_ w_ => ρ_ = [(0, p0), (2, .int .i64 x2), (3, p3), (5, .pointer (some ⟨b3689, 0, none⟩)), (8, .pointer (some ⟨b3692, 0, none⟩)), (50, .bool ((!t3738.2) || ((t3738.1.length : Int) != (x3.length : Int))))] ∧ Mem w [] w_ [box b3689 37 [.int .i64 x1.fKind, .int .i64 x1.fMember, p1_0, p1_1], box b3692 31 [.int .i64 0, .slice none 0 0]]) ?_ ?_
          · skip
            refine run_region rfl ?_
            refine ox rfl rfl rfl rfl (ex_move rfl rfl) ?_
            refine ox rfl rfl rfl rfl (ex_not rfl rfl) ?_
            refine ox rfl rfl rfl rfl (ex_move rfl rfl) ?_
            refine bool_cases (!t3738.2) (fun hg3743 => ?_) (fun hg3743 => ?_)
            · skip
              refine ops_off rfl (guard_off rfl rfl rfl hg3743) rfl rfl ?_
              refine ops_off rfl (guard_off rfl rfl rfl hg3743) rfl rfl ?_
              refine ops_off rfl (guard_off rfl rfl rfl hg3743) rfl rfl ?_
              refine ops_off rfl (guard_off rfl rfl rfl hg3743) rfl rfl ?_
              refine ops_off rfl (guard_off rfl rfl rfl hg3743) rfl rfl ?_
              have hg3744 : ((!t3738.2) || ((t3738.1.length : Int) != (x3.length : Int))) = true := by simp only [hg3743, Bool.and_true, Bool.true_and, Bool.and_false, Bool.false_and, Bool.or_true, Bool.true_or, Bool.or_false, Bool.false_or, Bool.not_true, Bool.not_false, Bool.not_not]
              refine ops_ex (v := .bool ((!t3738.2) || ((t3738.1.length : Int) != (x3.length : Int)))) rfl (guard_none rfl) rfl rfl (ex_por_t rfl rfl hg3743) ?_
              refine ops_nil ?_
              replace HM := (HM.front 0 rfl rfl).drop
              replace HM := HM.front 1 rfl rfl
              exact at_meet [(0, p0), (2, .int .i64 x2), (3, p3), (5, .pointer (some ⟨b3689, 0, none⟩)), (8, .pointer (some ⟨b3692, 0, none⟩)), (50, .bool ((!t3738.2) || ((t3738.1.length : Int) != (x3.length : Int))))] ⟨rfl, HM⟩ (Sub.cons rfl (Sub.cons rfl (Sub.cons rfl (Sub.cons rfl (Sub.cons rfl (Sub.cons rfl Sub.nil))))))
            · skip
              refine ops_ex rfl (guard_on rfl rfl rfl hg3743) rfl rfl (ex_move rfl rfl) ?_
              refine ops_ex rfl (guard_on rfl rfl rfl hg3743) rfl rfl (ex_len (d := kCoin) (xs := t3738.1) rfl rfl Tryz.underlying29 (HM.own_rd 0 rfl)) ?_
              refine ops_ex rfl (guard_on rfl rfl rfl hg3743) rfl rfl (ex_move rfl rfl) ?_
              refine ops_ex rfl (guard_on rfl rfl rfl hg3743) rfl rfl (ex_len (d := kCoin) (xs := x3) rfl rfl Tryz.underlying29 hp3) ?_
              refine ops_ex rfl (guard_on rfl rfl rfl hg3743) rfl rfl (ex_neq rfl rfl rfl) ?_
              refine ops_ex (v := .bool ((!t3738.2) || ((t3738.1.length : Int) != (x3.length : Int)))) rfl (guard_none rfl) rfl rfl (ex_por_f rfl rfl hg3743 rfl) ?_
              refine ops_nil ?_
              replace HM := (HM.front 0 rfl rfl).drop
              replace HM := HM.front 1 rfl rfl
              exact at_meet [(0, p0), (2, .int .i64 x2), (3, p3), (5, .pointer (some ⟨b3689, 0, none⟩)), (8, .pointer (some ⟨b3692, 0, none⟩)), (50, .bool ((!t3738.2) || ((t3738.1.length : Int) != (x3.length : Int))))] ⟨rfl, HM⟩ (Sub.cons rfl (Sub.cons rfl (Sub.cons rfl (Sub.cons rfl (Sub.cons rfl (Sub.cons rfl Sub.nil))))))
          · rintro _ w3745 ⟨rfl, HM⟩
            refine at_then ?_
            refine run_cond (b := ((!t3738.2) || ((t3738.1.length : Int) != (x3.length : Int)))) rfl (fun hb3746 => ?_) (fun hb3746 => ?_)
            · replace H := cond_t hb3746 H
              refine run_seq ?_
              refine run_region rfl ?_
              refine ox rfl rfl rfl rfl (ex_build (cells := #[(.int .i64 1), (.slice none 0 0)]) rfl rfl (by kernel_rfl)) ?_
              replace HM := HM.front 1 rfl rfl
              refine odS rfl rfl rfl (does_store (vs := [.int .i64 1, .slice none 0 0]) (cs' := [.int .i64 1, .slice none 0 0]) rfl rfl rfl rfl tsz31 (Ones.int (Ones.sl Ones.nil)) rfl rfl HM) ?_
              rintro w3747 HM
              refine ops_nil (at_then ?_)
              refine run_ret ?_
              refine at_then_ret ?_
              replace HM := HM.empty kCoin 72 none
              replace HM := (HM.front 2 rfl rfl).drop
              replace HM := HM.front 1 rfl rfl
              have hcb0 := HM.box_at 0 rfl
              replace HM := (HM.front 0 rfl rfl).drop
              have hR := Option.some.inj H
              subst hR
              exact at_retN rfl rfl Tryz.underlying31 rfl tsz31 rfl hcb0 ⟨_, rfl, _, rfl, HM⟩
            · replace H := cond_f hb3746 H
              refine run_skip ?_
              refine at_then ?_
              refine run_seq ?_
              refine run_seq ?_
              obtain ⟨t3752, h3753, H⟩ := bind_some H
              refine run_region rfl ?_
              refine ox rfl rfl rfl rfl (ex_move rfl rfl) ?_
              refine ox rfl rfl rfl rfl (ex_move rfl rfl) ?_
              refine od rfl rfl rfl rfl (does_callk rfl callok24 rfl (spec_l5Made.calls (x0 := x0) (x1 := x1) (x2 := x2) (HM.rd hp0) (HM.box_at 0 rfl) (HM.rd hp1_0) (HM.rd hp1_1) h3753)) ?_
              rintro _ w3754 ⟨rfl, hn⟩
              replace HM : Mem w [] w3754 [box b3689 37 [.int .i64 x1.fKind, .int .i64 x1.fMember, p1_0, p1_1], box b3692 31 [.int .i64 0, .slice none 0 0]] := HM.call hn
              refine ox rfl rfl rfl rfl (ex_not rfl rfl) ?_
              refine ops_nil (at_then ?_)
              refine run_cond (b := !t3752) rfl (fun hb3755 => ?_) (fun hb3755 => ?_)
              · replace H := cond_t hb3755 H
                refine run_seq ?_
                refine run_region rfl ?_
                refine ox rfl rfl rfl rfl (ex_build (cells := #[(.int .i64 4), (.slice none 0 0)]) rfl rfl (by kernel_rfl)) ?_
                replace HM := HM.front 1 rfl rfl
                refine odS rfl rfl rfl (does_store (vs := [.int .i64 4, .slice none 0 0]) (cs' := [.int .i64 4, .slice none 0 0]) rfl rfl rfl rfl tsz31 (Ones.int (Ones.sl Ones.nil)) rfl rfl HM) ?_
                rintro w3756 HM
                refine ops_nil (at_then ?_)
                refine run_ret ?_
                refine at_then_ret ?_
                replace HM := HM.empty kCoin 72 none
                replace HM := (HM.front 2 rfl rfl).drop
                replace HM := HM.front 1 rfl rfl
                have hcb0 := HM.box_at 0 rfl
                replace HM := (HM.front 0 rfl rfl).drop
                have hR := Option.some.inj H
                subst hR
                exact at_retN rfl rfl Tryz.underlying31 rfl tsz31 rfl hcb0 ⟨_, rfl, _, rfl, HM⟩
              · replace H := cond_f hb3755 H
                refine run_skip ?_
                refine at_then ?_
                obtain ⟨o3777, ho3778, H⟩ := bind_some H
                refine run_mid (fun ρ_ w_ => Sum.inr () = o3777 ∧ ρ_ = [(0, p0), (2, .int .i64 x2), (3, p3), (8, .pointer (some ⟨b3692, 0, none⟩))] ∧ Mem w [] w_ [box b3692 31 [.int .i64 0, .slice none 0 0]]) ?_ ?_
                · skip
                  refine run_seq ?_
                  refine run_region rfl ?_
                  refine ox rfl rfl rfl rfl (ex_assign rfl rfl) ?_
                  refine ops_nil (at_then ?_)
                  refine run_block ?_
                  refine run_loop (fun k_ ρ_ w_ => ∃ a3785 : Int, spec_UndoTx.l0 x0 x1 k_ a3785 = some o3777 ∧ ρ_ = [(0, p0), (2, .int .i64 x2), (3, p3), (5, .pointer (some ⟨b3689, 0, none⟩)), (8, .pointer (some ⟨b3692, 0, none⟩)), (14, .int .i64 a3785)] ∧ Mem w [] w_ [box b3689 37 [.int .i64 x1.fKind, .int .i64 x1.fMember, p1_0, p1_1], box b3692 31 [.int .i64 0, .slice none 0 0]]) k (ρ1 := [(0, p0), (2, .int .i64 x2), (3, p3), (5, .pointer (some ⟨b3689, 0, none⟩)), (8, .pointer (some ⟨b3692, 0, none⟩)), (14, .int .i64 0)]) ⟨_, ho3778, rfl, HM⟩ (Sub.cons rfl (Sub.cons rfl (Sub.cons rfl (Sub.cons rfl (Sub.cons rfl (Sub.cons rfl Sub.nil)))))) ?_
                  clear HM ho3778
                  rintro k3792 _ w3793 ⟨a3785, ho3778, rfl, HM⟩
                  obtain _ | k3792 := k3792
                  · exact nomatch ((spec_UndoTx.l0_z x0 x1 a3785).symm.trans ho3778)
                  replace ho3778 := (spec_UndoTx.l0_s x0 x1 k3792 a3785).symm.trans ho3778
                  refine run_seq ?_
                  refine run_seq ?_
                  refine run_region rfl ?_
                  refine ox rfl rfl rfl rfl (ex_move rfl rfl) ?_
                  refine ox rfl rfl rfl rfl (ex_fieldAddr (off' := 2) rfl rfl Tryz.underlying37 rfl tsz34 rfl) ?_
                  refine ox rfl rfl rfl rfl (ex_load1 rfl rfl Tryz.underlying34 rfl ((HM.box_at 0 rfl) 2 _ rfl)) ?_
                  refine ox rfl rfl rfl rfl (ex_len (d := kRef) (xs := x1.fIns) rfl rfl Tryz.underlying34 hp1_0) ?_
                  refine ox rfl rfl rfl rfl (ex_lss rfl rfl rfl) ?_
                  refine ops_nil (at_then ?_)
                  refine run_cond (b := (decide (a3785 < (x1.fIns.length : Int)))) rfl (fun hb3794 => ?_) (fun hb3794 => ?_)
                  · replace ho3778 := cond_t hb3794 ho3778
                    refine run_skip ?_
                    refine at_then ?_
                    refine run_seq ?_
                    refine run_block ?_
                    refine run_seq ?_
                    obtain ⟨e3795, ho3778⟩ := chk_some ho3778
                    obtain ⟨t3797, h3798, ho3778⟩ := bind_some ho3778
                    refine run_region rfl ?_
                    refine ox rfl rfl rfl rfl (ex_move rfl rfl) ?_
                    refine ox rfl rfl rfl rfl (ex_fieldAddr (off' := 2) rfl rfl Tryz.underlying37 rfl tsz34 rfl) ?_
                    refine ox rfl rfl rfl rfl (ex_load1 rfl rfl Tryz.underlying34 rfl ((HM.box_at 0 rfl) 2 _ rfl)) ?_
                    refine ox rfl rfl rfl rfl (ex_move rfl rfl) ?_
                    have hc3796 : CellsAt _ (sb p1_0) (so p1_0 + (a3785).toNat * 2) [(.int .i64 ((gt x1.fIns a3785).fTx)), (.int .i64 ((gt x1.fIns a3785).fAt))] := rd_plain hp1_0 e3795
                    refine ox rfl rfl rfl rfl (ex_indexAddr (d := kRef) rfl rfl rfl Tryz.underlying34 tsz66 hp1_0 (idx_lo e3795) (idx_hi e3795)) ?_
                    refine ox rfl rfl rfl rfl (ex_loadN (cs := [(.int .i64 ((gt x1.fIns a3785).fTx)), (.int .i64 ((gt x1.fIns a3785).fAt))]) rfl rfl Tryz.underlying66 rfl tsz66 rfl ((HM.at_ hc3796).sub 0 2 rfl)) ?_
                    refine od rfl rfl rfl rfl (does_callk rfl callok25 rfl (spec_l4At.calls (x0 := x0) (x1 := (gt x1.fIns a3785)) (HM.rd hp0) h3798)) ?_
                    rintro _ w3799 ⟨rfl, hn⟩
                    replace HM : Mem w [] w3799 [box b3689 37 [.int .i64 x1.fKind, .int .i64 x1.fMember, p1_0, p1_1], box b3692 31 [.int .i64 0, .slice none 0 0]] := HM.call hn
                    refine ox rfl rfl rfl rfl (ex_geq rfl rfl rfl) ?_
                    refine ops_nil (at_then ?_)
                    refine run_cond (b := (decide (0 ≤ t3797))) rfl (fun hb3800 => ?_) (fun hb3800 => ?_)
                    · replace ho3778 := cond_t hb3800 ho3778
                      refine run_seq ?_
                      refine run_region rfl ?_
                      refine ox rfl rfl rfl rfl (ex_build (cells := #[(.int .i64 7), (.slice none 0 0)]) rfl rfl (by kernel_rfl)) ?_
                      replace HM := HM.front 1 rfl rfl
                      refine odS rfl rfl rfl (does_store (vs := [.int .i64 7, .slice none 0 0]) (cs' := [.int .i64 7, .slice none 0 0]) rfl rfl rfl rfl tsz31 (Ones.int (Ones.sl Ones.nil)) rfl rfl HM) ?_
                      rintro w3801 HM
                      refine ops_nil (at_then ?_)
                      refine run_ret ?_
                      refine at_block_ret ?_
                      refine at_then_ret ?_
                      refine at_then_ret ?_
                      refine at_block_ret ?_
                      refine at_then_ret ?_
                      replace HM := HM.empty kCoin 72 none
                      replace HM := (HM.front 2 rfl rfl).drop
                      replace HM := HM.front 1 rfl rfl
                      have hcb0 := HM.box_at 0 rfl
                      replace HM := (HM.front 0 rfl rfl).drop
                      have hR := Option.some.inj ho3778
                      subst hR
                      have hT := thn_inl H
                      have hR := Option.some.inj hT
                      subst hR
                      exact at_retN rfl rfl Tryz.underlying31 rfl tsz31 rfl hcb0 ⟨_, rfl, _, rfl, HM⟩
                    · replace ho3778 := cond_f hb3800 ho3778
                      refine run_skip ?_
                      refine at_block ?_
                      refine at_then ?_
                      refine run_region rfl ?_
                      refine ox rfl rfl rfl rfl (ex_move rfl rfl) ?_
                      refine ox rfl rfl rfl rfl (ex_add rfl rfl rfl) ?_
                      refine ox rfl rfl rfl rfl (ex_assign rfl rfl) ?_
                      refine ops_nil ?_
                      exact at_again k3792 (ρ1 := [(0, p0), (2, .int .i64 x2), (3, p3), (5, .pointer (some ⟨b3689, 0, none⟩)), (8, .pointer (some ⟨b3692, 0, none⟩)), (14, .int .i64 (wrap64 (a3785 + 1)))]) (Nat.lt_succ_self _) ⟨_, ho3778, rfl, HM⟩ (Sub.cons rfl (Sub.cons rfl (Sub.cons rfl (Sub.cons rfl (Sub.cons rfl (Sub.cons rfl Sub.nil))))))
                  · replace ho3778 := cond_f hb3794 ho3778
                    refine run_exit ?_
                    refine at_then_exit ?_
                    refine at_then_exit ?_
                    refine at_block_exit ?_
                    replace HM := (HM.front 0 rfl rfl).drop
                    exact at_mid (ρ' := [(0, p0), (2, .int .i64 x2), (3, p3), (8, .pointer (some ⟨b3692, 0, none⟩))]) ⟨(Option.some.inj ho3778), rfl, HM⟩ (Sub.cons rfl (Sub.cons rfl (Sub.cons rfl (Sub.cons rfl Sub.nil))))
                · rintro _ w3803 ⟨rfl, rfl, HM⟩
                  replace H := (thn_inr H)
                  refine run_seq ?_
                  obtain ⟨t3804, h3805, H⟩ := bind_some H
                  refine run_region rfl ?_
                  refine ox rfl rfl rfl rfl (ex_move rfl rfl) ?_
                  refine ox rfl rfl rfl rfl (ex_move rfl rfl) ?_
                  refine ox rfl rfl rfl rfl (ex_move rfl rfl) ?_
                  refine od rfl rfl rfl rfl (does_callk rfl callok26 rfl (spec_l5Back.calls (x0 := x0) (x1 := x2) (x2 := x3) (HM.rd hp0) (HM.rd hp3) h3805)) ?_
                  rintro u3806 w3808 ⟨_, rfl, hn⟩
                  replace HM : Mem w [] w3808 [own kCoin 72 u3806 t3804, box b3692 31 [.int .i64 0, .slice none 0 0]] := HM.call hn
                  refine ox rfl rfl rfl rfl (ex_assign rfl rfl) ?_
                  refine ops_nil (at_then (run_seq ?_))
                  refine run_seq ?_
                  refine run_region rfl ?_
                  refine ox rfl rfl rfl rfl (ex_move rfl rfl) ?_
                  refine ox rfl rfl rfl rfl (ex_len (d := kCoin) (xs := t3804) rfl rfl Tryz.underlying29 (HM.own_rd 0 rfl)) ?_
                  refine ox rfl rfl rfl rfl (ex_gtr rfl rfl rfl) ?_
                  refine ops_nil (at_then ?_)
                  refine run_cond (b := (decide (40 < (t3804.length : Int)))) rfl (fun hb3809 => ?_) (fun hb3809 => ?_)
                  · replace H := cond_t hb3809 H
                    refine run_seq ?_
                    refine run_region rfl ?_
                    refine ox rfl rfl rfl rfl (ex_build (cells := #[(.int .i64 2), (.slice none 0 0)]) rfl rfl (by kernel_rfl)) ?_
                    replace HM := HM.front 1 rfl rfl
                    refine odS rfl rfl rfl (does_store (vs := [.int .i64 2, .slice none 0 0]) (cs' := [.int .i64 2, .slice none 0 0]) rfl rfl rfl rfl tsz31 (Ones.int (Ones.sl Ones.nil)) rfl rfl HM) ?_
                    rintro w3810 HM
                    refine ops_nil (at_then ?_)
                    refine run_ret ?_
                    refine at_then_ret ?_
                    replace HM := HM.empty kCoin 72 none
                    replace HM := (HM.front 2 rfl rfl).drop
                    replace HM := HM.front 1 rfl rfl
                    have hcb0 := HM.box_at 0 rfl
                    replace HM := (HM.front 0 rfl rfl).drop
                    have hR := Option.some.inj H
                    subst hR
                    exact at_retN rfl rfl Tryz.underlying31 rfl tsz31 rfl hcb0 ⟨_, rfl, _, rfl, HM⟩
                  · replace H := cond_f hb3809 H
                    refine run_skip ?_
                    refine at_then ?_
                    refine run_seq ?_
                    refine run_region rfl ?_
                    refine ox rfl rfl rfl rfl (ex_move rfl rfl) ?_
                    refine ox rfl rfl rfl rfl (ex_build1 (fun u3806 => [(1, u3806)]) (fun u3806 => #[.int .i64 0, u3806]) rfl rfl (fun _ _ _ => by kernel_rfl) (HM.own_rd 0 rfl).isSl) ?_
                    replace HM := HM.front 1 rfl rfl
                    refine odS rfl rfl rfl (does_store (vs := [.int .i64 0, u3806]) (cs' := [.int .i64 0, u3806]) rfl rfl rfl rfl tsz31 (Ones.int (Ones.rd (HM.own_rd 1 rfl) Ones.nil)) rfl rfl HM) ?_
                    rintro w3812 HM
                    refine ops_nil (at_then ?_)
                    refine run_ret ?_
                    have hcb0 := HM.box_at 0 rfl
                    replace HM := (HM.front 0 rfl rfl).drop
                    have hR := Option.some.inj H
                    subst hR
                    exact at_retN rfl rfl Tryz.underlying31 rfl tsz31 rfl hcb0 ⟨_, rfl, _, rfl, HM⟩
end Go.Proofs.YtecgbhfgkkpmhabGreat.Zk
