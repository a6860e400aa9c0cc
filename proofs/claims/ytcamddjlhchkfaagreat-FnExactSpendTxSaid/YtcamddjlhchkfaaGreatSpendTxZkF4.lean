/- What functions of the program compute, each as a plain function, and that they do. Conditions: as each theorem states them. -/
import Derived.Test.YtcamddjlhchkfaaGreatSpendTxZkF3
namespace Go.Proofs.YtcamddjlhchkfaaGreat.Zk
open Go Go.RowKit Go.IntWalk Go.Proofs
set_option linter.unusedVariables false
set_option linter.unusedSimpArgs false
set_option maxRecDepth 100000
set_option maxHeartbeats 4000000
def spec_l4Add.l0 (x0 : List Coin) (x1 : Coin) : Nat → Int → Option Int
  | 0, _ => none
  | k + 1, a3189 => (chk (!(decide (a3189 < (x0.length : Int))) || (idxOk a3189 x0.length)) ((bif (decide (a3189 < (x0.length : Int))) then spec_l4Ahead.f k ((gt x0 a3189).fRef) x1.fRef else some default).bind fun t3197 => (bif ((decide (a3189 < (x0.length : Int))) && t3197) then spec_l4Add.l0 x0 x1 k (wrap64 (a3189 + 1)) else some a3189)))
theorem spec_l4Add.l0_z (x0 : List Coin) (x1 : Coin) (a3189 : Int) : spec_l4Add.l0 x0 x1 0 a3189 = none := rfl
theorem spec_l4Add.l0_s (x0 : List Coin) (x1 : Coin) (k : Nat) (a3189 : Int) : spec_l4Add.l0 x0 x1 (k + 1) a3189 = (chk (!(decide (a3189 < (x0.length : Int))) || (idxOk a3189 x0.length)) ((bif (decide (a3189 < (x0.length : Int))) then spec_l4Ahead.f k ((gt x0 a3189).fRef) x1.fRef else some default).bind fun t3197 => (bif ((decide (a3189 < (x0.length : Int))) && t3197) then spec_l4Add.l0 x0 x1 k (wrap64 (a3189 + 1)) else some a3189))) := rfl
def spec_l4Add.f (k : Nat) (x0 : List Coin) (x1 : Coin) : Option ((List Coin)) := ((spec_l4Add.l0 x0 x1 k 0).bind (fun a3182 => (chk (cutOk a3182 x0.length) (chk (leB ((a3182).toNat * 80) 140737488355328) (chk (cutOk a3182 x0.length) (chk (leB (((a3182).toNat + ([x1] : List Coin).length) * 80) 140737488355328) (chk (leB (((a3182).toNat + ([x1] : List Coin).length + (x0.length - (a3182).toNat)) * 80) 140737488355328) (chk (decide ((a3182).toNat ≤ (a3182).toNat)) (some (x0.take (a3182).toNat ++ ([x1] : List Coin) ++ x0.drop (a3182).toNat))))))))))
theorem spec_l4Add.calls {k : Nat} {x0 : List Coin} {x1 : Coin} {p0 : Value} {p1_0 : Value} {w wo : World} {X : List Nat} (hwo : Olds wo w X) (hX : Hold w [own kCoin 77 p0 x0, own kInt 2 p1_0 x1.fOut.fRule.fKeys] X) (hXn : X.Nodup) (hXl : ∀ b ∈ X, b < w.heap.size)  {r : (List Coin)} (H : spec_l4Add.f k x0 x1 = some r) :
    Calls Tryz.prog 89 ([p0, .agg #[(.int .i64 x1.fRef.fTx), (.int .i64 x1.fRef.fAt), (.int .i64 x1.fOut.fValue), p1_0, (.int .i64 x1.fOut.fRule.fNeed), (.int .i64 x1.fOut.fRule.fAfter), (.int .i64 x1.fHeight), (.bool x1.fMined)]] : List Value).toArray w (fun e w_ => ∃ v, e = .returned v ∧ ∃ u0 : Value, v = u0 ∧ Mem w X w_ [own kCoin 77 u0 r]) := by
  have HM := Mem.startX hX hXn hXl
  refine calls_run (N := 36) Tryz.func89 rfl rfl rfl rfl ?_
  unfold spec_l4Add.f at H
  refine run_seq ?_
  refine run_region rfl ?_
  refine ops_does rfl (guard_none rfl) rfl rfl (does_box (cs := [.int .i64 x1.fRef.fTx, .int .i64 x1.fRef.fAt, .int .i64 x1.fOut.fValue, p1_0, .int .i64 x1.fOut.fRule.fNeed, .int .i64 x1.fOut.fRule.fAfter, .int .i64 x1.fHeight, .bool x1.fMined]) rfl rfl rfl HM) ?_
  rintro _ w3168 ⟨b3165, rfl, HM⟩
  refine ops_ex rfl (guard_none rfl) rfl rfl (ex_assign rfl rfl) ?_
  refine ops_nil ?_
  refine at_then ?_
  refine run_seq ?_
  refine run_region rfl ?_
  refine ops_ex rfl (guard_none rfl) rfl rfl (ex_assign rfl rfl) ?_
  refine ops_nil ?_
  refine at_then ?_
  obtain ⟨o3183, ho3184, H⟩ := bind_some H
  refine run_mid (fun ρ_ w_ => ∃ a3182 : Int, a3182 = o3183 ∧ ρ_ = [(0, p0), (3, .pointer (some ⟨b3165, 0, none⟩)), (5, .int .i64 a3182)] ∧ Mem w X w_ [own kCoin 77 p0 x0, own kInt 2 p1_0 x1.fOut.fRule.fKeys, box b3165 77 [.int .i64 x1.fRef.fTx, .int .i64 x1.fRef.fAt, .int .i64 x1.fOut.fValue, p1_0, .int .i64 x1.fOut.fRule.fNeed, .int .i64 x1.fOut.fRule.fAfter, .int .i64 x1.fHeight, .bool x1.fMined]]) ?_ ?_
  · clear H
    refine run_block ?_
    replace HM := HM.front 2 rfl rfl
    replace HM := HM.front 2 rfl rfl
    refine run_loop (fun k_ ρ_ w_ => ∃ a3189 : Int, spec_l4Add.l0 x0 x1 k_ a3189 = some o3183 ∧ ρ_ = [(0, p0), (3, .pointer (some ⟨b3165, 0, none⟩)), (5, .int .i64 a3189)] ∧ Mem w X w_ [own kCoin 77 p0 x0, own kInt 2 p1_0 x1.fOut.fRule.fKeys, box b3165 77 [.int .i64 x1.fRef.fTx, .int .i64 x1.fRef.fAt, .int .i64 x1.fOut.fValue, p1_0, .int .i64 x1.fOut.fRule.fNeed, .int .i64 x1.fOut.fRule.fAfter, .int .i64 x1.fHeight, .bool x1.fMined]]) k (ρ1 := [(0, p0), (3, .pointer (some ⟨b3165, 0, none⟩)), (5, .int .i64 0)]) ⟨_, ho3184, rfl, HM⟩ (Sub.cons rfl (Sub.cons rfl (Sub.cons rfl Sub.nil))) ?_
    clear HM ho3184
    rintro k3194 _ w3195 ⟨a3189, ho3184, rfl, HM⟩
    obtain _ | k3194 := k3194
    · exact nomatch ((spec_l4Add.l0_z x0 x1 a3189).symm.trans ho3184)
    replace ho3184 := (spec_l4Add.l0_s x0 x1 k3194 a3189).symm.trans ho3184
    refine run_seq ?_
    refine run_seq ?_
    obtain ⟨e3196, ho3184⟩ := chk_some ho3184
    obtain ⟨t3197, h3198, ho3184⟩ := bind_some ho3184
    refine run_meet (fun ρ_ w_ => ρ_ = [(0, p0), (3, .pointer (some ⟨b3165, 0, none⟩)), (5, .int .i64 a3189), (20, .bool ((decide (a3189 < (x0.length : Int))) && t3197))] ∧ Mem w X w_ [own kCoin 77 p0 x0, own kInt 2 p1_0 x1.fOut.fRule.fKeys, box b3165 77 [.int .i64 x1.fRef.fTx, .int .i64 x1.fRef.fAt, .int .i64 x1.fOut.fValue, p1_0, .int .i64 x1.fOut.fRule.fNeed, .int .i64 x1.fOut.fRule.fAfter, .int .i64 x1.fHeight, .bool x1.fMined]]) ?_ ?_
    · skip
      refine run_drawf (fun w_ => Mem w X w_ [own kCoin 77 p0 x0, own kInt 2 p1_0 x1.fOut.fRule.fKeys, box b3165 77 [.int .i64 x1.fRef.fTx, .int .i64 x1.fRef.fAt, .int .i64 x1.fOut.fValue, p1_0, .int .i64 x1.fOut.fRule.fNeed, .int .i64 x1.fOut.fRule.fAfter, .int .i64 x1.fHeight, .bool x1.fMined]]) [(0, true), (1, true), (2, true), (3, true), (4, true), (5, true), (6, true), (7, true), (8, true), (9, true), (10, true), (11, true), (12, false), (13, true)] mixed rfl rfl (by kernel_rfl) ?_
      replace HM := HM.grow (fr_drew _)
      have hS := Mem.suf (M := []) HM
      refine drwp_take rfl (guard_none rfl) rfl rfl (fun w_ hS_ => (ex_move rfl rfl)) hS ?_
      refine drwp_take rfl (guard_none rfl) rfl rfl (fun w_ hS_ => (ex_move rfl rfl)) hS ?_
      refine drwp_take rfl (guard_none rfl) rfl rfl (fun w_ hS_ => (ex_len (d := kCoin) (xs := x0) rfl rfl Tryz.underlying29 (hS_.own_rd 0 rfl))) hS ?_
      refine drwp_take rfl (guard_none rfl) rfl rfl (fun w_ hS_ => (ex_lss rfl rfl rfl)) hS ?_
      refine drwp_take rfl (guard_none rfl) rfl rfl (fun w_ hS_ => (ex_move rfl rfl)) hS ?_
      refine bool_cases (decide (a3189 < (x0.length : Int))) (fun hg3199 => ?_) (fun hg3199 => ?_)
      · skip
        refine drwp_take rfl (guard_on rfl rfl rfl hg3199) rfl rfl (fun w_ hS_ => (ex_move rfl rfl)) hS ?_
        refine drwp_take rfl (guard_on rfl rfl rfl hg3199) rfl rfl (fun w_ hS_ => (ex_move rfl rfl)) hS ?_
        refine drwp_take rfl (guard_on rfl rfl rfl hg3199) rfl rfl (fun w_ hS_ => (ex_indexAddr (d := kCoin) rfl rfl rfl Tryz.underlying29 tsz77 (hS_.own_rd 0 rfl) (idx_lo (or_t e3196 hg3199)) (idx_hi (or_t e3196 hg3199)))) hS ?_
        refine drwp_take rfl (guard_on rfl rfl rfl hg3199) rfl rfl (fun w_ hS_ => (ex_fieldAddr (off' := so p0 + (a3189).toNat * 8) rfl rfl Tryz.underlying77 rfl tsz56 rfl)) hS ?_
        refine drwp_take rfl (guard_on rfl rfl rfl hg3199) rfl rfl (fun w_ hS_ => (let ⟨_, hc_, _⟩ := rd_with1 (hS_.own_rd 0 rfl) (or_t e3196 hg3199); ex_loadN (cs := [(.int .i64 ((gt x0 a3189).fRef.fTx)), (.int .i64 ((gt x0 a3189).fRef.fAt))]) rfl rfl Tryz.underlying56 rfl tsz56 rfl (hc_.sub 0 2 rfl))) hS ?_
        refine drwp_take rfl (guard_on rfl rfl rfl hg3199) rfl rfl (fun w_ hS_ => (ex_fieldAddr (off' := 0) rfl rfl Tryz.underlying77 rfl tsz56 rfl)) hS ?_
        refine drwp_take rfl (guard_on rfl rfl rfl hg3199) rfl rfl (fun w_ hS_ => (ex_loadN (cs := [(.int .i64 x1.fRef.fTx), (.int .i64 x1.fRef.fAt)]) rfl rfl Tryz.underlying56 rfl tsz56 rfl ((hS_.box_at 2 rfl).sub 0 2 rfl))) hS ?_
        refine drwp_one rfl (guard_on rfl rfl rfl hg3199) rfl rfl (does_callk rfl callok73 rfl (spec_l4Ahead.calls (x0 := (gt x0 a3189).fRef) (x1 := x1.fRef) (cond_t hg3199 h3198))) ?_
        rintro _ w3200 ⟨rfl, hn⟩
        replace HM : Mem w X w3200 [own kCoin 77 p0 x0, own kInt 2 p1_0 x1.fOut.fRule.fKeys, box b3165 77 [.int .i64 x1.fRef.fTx, .int .i64 x1.fRef.fAt, .int .i64 x1.fOut.fValue, p1_0, .int .i64 x1.fOut.fRule.fNeed, .int .i64 x1.fOut.fRule.fAfter, .int .i64 x1.fHeight, .bool x1.fMined]] := HM.call hn
        refine ⟨Mem.suf (M := []) HM, ?_⟩
        have hS := Mem.suf (M := []) HM
        refine drwp_take (v := .bool ((decide (a3189 < (x0.length : Int))) && t3197)) rfl (guard_none rfl) rfl rfl (fun w_ hS_ => (ex_pand_t rfl rfl hg3199 rfl)) hS ?_
        refine drwp_done ?_
        exact at_meet [(0, p0), (3, .pointer (some ⟨b3165, 0, none⟩)), (5, .int .i64 a3189), (20, .bool ((decide (a3189 < (x0.length : Int))) && t3197))] ⟨rfl, HM⟩ (Sub.cons rfl (Sub.cons rfl (Sub.cons rfl (Sub.cons rfl Sub.nil))))
      · skip
        refine drwp_off rfl (guard_off rfl rfl rfl hg3199) rfl rfl hS ?_
        refine drwp_off rfl (guard_off rfl rfl rfl hg3199) rfl rfl hS ?_
        refine drwp_off rfl (guard_off rfl rfl rfl hg3199) rfl rfl hS ?_
        refine drwp_off rfl (guard_off rfl rfl rfl hg3199) rfl rfl hS ?_
        refine drwp_off rfl (guard_off rfl rfl rfl hg3199) rfl rfl hS ?_
        refine drwp_off rfl (guard_off rfl rfl rfl hg3199) rfl rfl hS ?_
        refine drwp_off rfl (guard_off rfl rfl rfl hg3199) rfl rfl hS ?_
        refine drwp_off1 rfl (guard_off rfl rfl rfl hg3199) rfl rfl ⟨hS, ?_⟩
        have hg3201 : ((decide (a3189 < (x0.length : Int))) && t3197) = false := by simp only [hg3199, Bool.and_true, Bool.true_and, Bool.and_false, Bool.false_and, Bool.or_true, Bool.true_or, Bool.or_false, Bool.false_or, Bool.not_true, Bool.not_false, Bool.not_not]
        refine drwp_take (v := .bool ((decide (a3189 < (x0.length : Int))) && t3197)) rfl (guard_none rfl) rfl rfl (fun w_ hS_ => (ex_pand_f rfl rfl hg3199)) hS ?_
        refine drwp_done ?_
        exact at_meet [(0, p0), (3, .pointer (some ⟨b3165, 0, none⟩)), (5, .int .i64 a3189), (20, .bool ((decide (a3189 < (x0.length : Int))) && t3197))] ⟨rfl, HM⟩ (Sub.cons rfl (Sub.cons rfl (Sub.cons rfl (Sub.cons rfl Sub.nil))))
    · rintro _ w3202 ⟨rfl, HM⟩
      refine at_then ?_
      refine run_cond (b := ((decide (a3189 < (x0.length : Int))) && t3197)) rfl (fun hb3203 => ?_) (fun hb3203 => ?_)
      · replace ho3184 := cond_t hb3203 ho3184
        refine run_skip ?_
        refine at_then ?_
        refine run_block ?_
        refine run_region rfl ?_
        refine ops_ex rfl (guard_none rfl) rfl rfl (ex_move rfl rfl) ?_
        refine ops_ex rfl (guard_none rfl) rfl rfl (ex_add rfl rfl rfl) ?_
        refine ops_ex rfl (guard_none rfl) rfl rfl (ex_assign rfl rfl) ?_
        refine ops_nil ?_
        refine at_block ?_
        exact at_again k3194 (ρ1 := [(0, p0), (3, .pointer (some ⟨b3165, 0, none⟩)), (5, .int .i64 (wrap64 (a3189 + 1)))]) (Nat.lt_succ_self _) ⟨_, ho3184, rfl, HM⟩ (Sub.cons rfl (Sub.cons rfl (Sub.cons rfl Sub.nil)))
      · replace ho3184 := cond_f hb3203 ho3184
        refine run_exit ?_
        refine at_then_exit ?_
        refine at_then_exit ?_
        refine at_block_exit ?_
        exact at_mid (ρ' := [(0, p0), (3, .pointer (some ⟨b3165, 0, none⟩)), (5, .int .i64 a3189)]) ⟨_, (Option.some.inj ho3184), rfl, HM⟩ (Sub.cons rfl (Sub.cons rfl (Sub.cons rfl Sub.nil)))
  · rintro _ w3204 ⟨a3182, rfl, rfl, HM⟩
    refine run_seq ?_
    obtain ⟨e3208, H⟩ := chk_some H
    obtain ⟨e3210, H⟩ := chk_some H
    refine run_region rfl ?_
    refine ops_does rfl (guard_none rfl) rfl rfl (does_lit (e := 77) (cs := []) (xs := ([] : List Coin)) kCoin rfl rfl (fun _ => by kernel_rfl) rfl rfl (fun _ _ h => by have h' : _ = [] := h; subst h'; exact .nil) HM.emp) ?_
    rintro v3205 w3211 HM
    refine ops_ex rfl (guard_none rfl) rfl rfl (ex_move rfl rfl) ?_
    refine ops_ex rfl (guard_none rfl) rfl rfl (ex_move rfl rfl) ?_
    refine ops_ex rfl (guard_none rfl) rfl rfl (ex_cutvH rfl rfl rfl Tryz.underlying29 tsz77 (cut_lo e3208) ((HM.own_rd 1 rfl).cap.le (cut_hi e3208))) ?_
    replace HM := HM.front 1 rfl rfl
    replace HM := HM.front 1 rfl rfl
    refine ops_does rfl (guard_none rfl) rfl rfl (does_mv1 (k := (a3182).toNat) kCoin rfl rfl rfl Tryz.underlying29 tsz77 tby77 tz77 rfl rfl (cut_hi e3208) (leB_le e3210) HM) ?_
    rintro v3209 w3212 HM
    refine ops_ex rfl (guard_none rfl) rfl rfl (ex_assign rfl rfl) ?_
    refine ops_nil ?_
    refine at_then ?_
    refine run_seq ?_
    obtain ⟨e3213, H⟩ := chk_some H
    obtain ⟨e3218, H⟩ := chk_some H
    obtain ⟨e3220, H⟩ := chk_some H
    obtain ⟨e3221, H⟩ := chk_some H
    replace HM := HM.front 1 rfl rfl
    replace HM := HM.front 1 rfl rfl
    refine run_drawf (fun w_ => Mem w X w_ [box b3165 77 [.int .i64 x1.fRef.fTx, .int .i64 x1.fRef.fAt, .int .i64 x1.fOut.fValue, p1_0, .int .i64 x1.fOut.fRule.fNeed, .int .i64 x1.fOut.fRule.fAfter, .int .i64 x1.fHeight, .bool x1.fMined]]) [(0, true), (1, true), (4, true), (5, true), (6, true), (2, false), (3, false), (7, false), (8, true)] mixed rfl rfl (by kernel_rfl) ?_
    replace HM := HM.grow (fr_drew _)
    have hS := Mem.suf (M := [mvC kCoin 77 p0 x0 v3209 (a3182).toNat, own kInt 2 p1_0 x1.fOut.fRule.fKeys]) HM
    refine drwp_take rfl (guard_none rfl) rfl rfl (fun w_ hS_ => (ex_move rfl rfl)) hS ?_
    refine drwp_take rfl (guard_none rfl) rfl rfl (fun w_ hS_ => (ex_loadN (cs := [(.int .i64 x1.fRef.fTx), (.int .i64 x1.fRef.fAt), (.int .i64 x1.fOut.fValue), p1_0, (.int .i64 x1.fOut.fRule.fNeed), (.int .i64 x1.fOut.fRule.fAfter), (.int .i64 x1.fHeight), (.bool x1.fMined)]) rfl rfl Tryz.underlying77 rfl tsz77 rfl ((hS_.box_at 0 rfl).sub 0 8 rfl))) hS ?_
    refine drwp_take rfl (guard_none rfl) rfl rfl (fun w_ hS_ => (ex_move rfl rfl)) hS ?_
    refine drwp_take rfl (guard_none rfl) rfl rfl (fun w_ hS_ => (ex_move rfl rfl)) hS ?_
    refine drwp_take rfl (guard_none rfl) rfl rfl (fun w_ hS_ => (ex_cutvL rfl rfl rfl Tryz.underlying29 tsz77 (HM.mv_rd 0 rfl) e3213)) hS ?_
    replace HM := HM.front 1 rfl rfl
    refine drwp_one rfl (guard_none rfl) rfl rfl (does_lit (e := 77) (cs := [(.int .i64 x1.fRef.fTx), (.int .i64 x1.fRef.fAt), (.int .i64 x1.fOut.fValue), p1_0, (.int .i64 x1.fOut.fRule.fNeed), (.int .i64 x1.fOut.fRule.fAfter), (.int .i64 x1.fHeight), (.bool x1.fMined)]) (xs := ([x1] : List Coin)) kCoin rfl rfl (fun _ => by kernel_rfl) rfl rfl (fun _ _ h => by have := Elems.cons (d := kCoin) (x := x1) ⟨_, rfl, h⟩ .nil; rw [List.append_nil, List.append_nil] at this; exact this) HM) ?_
    rintro v3214 w3223 HM
    refine ⟨Mem.suf (M := [own kCoin 77 v3214 ([x1] : List Coin), mvC kCoin 77 p0 x0 v3209 (a3182).toNat]) HM, ?_⟩
    have hS := Mem.suf (M := [own kCoin 77 v3214 ([x1] : List Coin), mvC kCoin 77 p0 x0 v3209 (a3182).toNat]) HM
    replace HM := HM.front 1 rfl rfl
    refine drwp_one rfl (guard_none rfl) rfl rfl (does_mvA (k := (a3182).toNat) kCoin rfl rfl rfl Tryz.underlying29 tsz77 tby77 tz77 rfl rfl (leB_le e3218) HM) ?_
    rintro v3217 w3224 HM
    refine ⟨Mem.suf (M := [mvC2 kCoin 77 p0 x0 v3217 (a3182).toNat ([x1] : List Coin)]) HM, ?_⟩
    have hS := Mem.suf (M := [mvC2 kCoin 77 p0 x0 v3217 (a3182).toNat ([x1] : List Coin)]) HM
    refine drwp_one rfl (guard_none rfl) rfl rfl (does_mv3 (j := (a3182).toNat) kCoin rfl rfl rfl Tryz.underlying29 tsz77 tby77 tz77 rfl rfl (of_decide_eq_true e3221) (cut_hi e3213) (leB_le e3220) HM) ?_
    rintro v3219 w3225 HM
    refine ⟨Mem.suf (M := [own kCoin 77 v3219 (x0.take (a3182).toNat ++ ([x1] : List Coin) ++ x0.drop (a3182).toNat)]) HM, ?_⟩
    have hS := Mem.suf (M := [own kCoin 77 v3219 (x0.take (a3182).toNat ++ ([x1] : List Coin) ++ x0.drop (a3182).toNat)]) HM
    refine drwp_take rfl (guard_none rfl) rfl rfl (fun w_ hS_ => (ex_assign rfl rfl)) hS ?_
    refine drwp_done ?_
    refine at_then ?_
    refine run_ret ?_
    replace HM := (HM.front 1 rfl rfl).drop
    have hR := Option.some.inj H
    subst hR
    exact at_ret1 rfl rfl ⟨_, rfl, _, rfl, HM⟩

def spec_l4Put.l0 (x1 : Int) (x2 : List Out) (x3 : Int) (x4 : Bool) : Nat → (List Coin) → Int → Option ((List Coin))
  | 0, _, _ => none
  | k + 1, a3416, a3418 => (bif (decide (a3418 < (x2.length : Int))) then (chk (idxOk a3418 x2.length) (chk (idxOk a3418 x2.length) ((spec_l2Copy.f k ((gt x2 a3418).fRule)).bind fun t3456 => ((spec_l4Add.f k a3416 (⟨(⟨x1, a3418⟩ : Ref), (⟨(gt x2 a3418).fValue, t3456⟩ : Out), x3, x4⟩ : Coin)).bind fun t3470 => spec_l4Put.l0 x1 x2 x3 x4 k t3470 (wrap64 (a3418 + 1)))))) else some a3416)
theorem spec_l4Put.l0_z (x1 : Int) (x2 : List Out) (x3 : Int) (x4 : Bool) (a3416 : List Coin) (a3418 : Int) : spec_l4Put.l0 x1 x2 x3 x4 0 a3416 a3418 = none := rfl
theorem spec_l4Put.l0_s (x1 : Int) (x2 : List Out) (x3 : Int) (x4 : Bool) (k : Nat) (a3416 : List Coin) (a3418 : Int) : spec_l4Put.l0 x1 x2 x3 x4 (k + 1) a3416 a3418 = (bif (decide (a3418 < (x2.length : Int))) then (chk (idxOk a3418 x2.length) (chk (idxOk a3418 x2.length) ((spec_l2Copy.f k ((gt x2 a3418).fRule)).bind fun t3456 => ((spec_l4Add.f k a3416 (⟨(⟨x1, a3418⟩ : Ref), (⟨(gt x2 a3418).fValue, t3456⟩ : Out), x3, x4⟩ : Coin)).bind fun t3470 => spec_l4Put.l0 x1 x2 x3 x4 k t3470 (wrap64 (a3418 + 1)))))) else some a3416) := rfl
def spec_l4Put.f (k : Nat) (x0 : List Coin) (x1 : Int) (x2 : List Out) (x3 : Int) (x4 : Bool) : Option ((List Coin)) := ((spec_l4Copy.f k x0).bind fun t3297 => ((spec_l4Put.l0 x1 x2 x3 x4 k t3297 0).bind (fun a3385 => some a3385)))
theorem spec_l4Put.calls {k : Nat} {x0 : List Coin} {x1 : Int} {x2 : List Out} {x3 : Int} {x4 : Bool} {p0 : Value} {p2 : Value} {w : World} (hp0 : RdS kCoin w p0 x0) (hp2 : RdS kOut w p2 x2) {r : (List Coin)} (H : spec_l4Put.f k x0 x1 x2 x3 x4 = some r) :
    Calls Tryz.prog 97 ([p0, .int .i64 x1, p2, .int .i64 x3, .bool x4] : List Value).toArray w (fun e w_ => ∃ v, e = .returned v ∧ ∃ u0 : Value, v = u0 ∧ Mem w [] w_ [own kCoin 77 u0 r]) := by
  have HM := Mem.start w
  refine calls_run (N := 44) Tryz.func97 rfl rfl rfl rfl ?_
  unfold spec_l4Put.f at H
  refine run_seq ?_
  refine run_region rfl ?_
  refine ops_ex rfl (guard_none rfl) rfl rfl (ex_assign rfl rfl) ?_
  refine ops_nil ?_
  refine at_then ?_
  refine run_seq ?_
  obtain ⟨t3297, h3298, H⟩ := bind_some H
  refine run_region rfl ?_
  refine ops_ex rfl (guard_none rfl) rfl rfl (ex_move rfl rfl) ?_
  refine ops_does rfl (guard_none rfl) rfl rfl (does_callk rfl callok77 rfl (spec_l4Copy.calls (x0 := x0) (HM.rd hp0) h3298)) ?_
  rintro u3299 w3301 ⟨_, rfl, hn⟩
  replace HM : Mem w [] w3301 [own kCoin 77 u3299 t3297] := HM.call hn
  refine ops_ex rfl (guard_none rfl) rfl rfl (ex_assign rfl rfl) ?_
  refine ops_nil ?_
  refine at_then ?_
  obtain ⟨o3387, ho3388, H⟩ := bind_some H
  refine run_mid (fun ρ_ w_ => ∃ v3384 : Value, ∃ a3385 : List Coin, a3385 = o3387 ∧ ρ_ = [(11, v3384)] ∧ Mem w [] w_ [own kCoin 77 v3384 a3385]) ?_ ?_
  · clear H
    refine run_seq ?_
    refine run_region rfl ?_
    refine ops_ex rfl (guard_none rfl) rfl rfl (ex_assign rfl rfl) ?_
    refine ops_nil ?_
    refine at_then ?_
    refine run_block ?_
    refine run_loop (fun k_ ρ_ w_ => ∃ v3415 : Value, ∃ a3416 : List Coin, ∃ a3418 : Int, spec_l4Put.l0 x1 x2 x3 x4 k_ a3416 a3418 = some o3387 ∧ ρ_ = [(1, .int .i64 x1), (2, p2), (3, .int .i64 x3), (4, .bool x4), (11, v3415), (12, .int .i64 a3418)] ∧ Mem w [] w_ [own kCoin 77 v3415 a3416]) k (ρ1 := [(1, .int .i64 x1), (2, p2), (3, .int .i64 x3), (4, .bool x4), (11, u3299), (12, .int .i64 0)]) ⟨_, _, _, ho3388, rfl, HM⟩ (Sub.cons rfl (Sub.cons rfl (Sub.cons rfl (Sub.cons rfl (Sub.cons rfl (Sub.cons rfl Sub.nil)))))) ?_
    clear HM ho3388
    rintro k3445 _ w3446 ⟨v3415, a3416, a3418, ho3388, rfl, HM⟩
    obtain _ | k3445 := k3445
    · exact nomatch ((spec_l4Put.l0_z x1 x2 x3 x4 a3416 a3418).symm.trans ho3388)
    replace ho3388 := (spec_l4Put.l0_s x1 x2 x3 x4 k3445 a3416 a3418).symm.trans ho3388
    refine run_seq ?_
    refine run_seq ?_
    refine run_region rfl ?_
    refine ops_ex rfl (guard_none rfl) rfl rfl (ex_move rfl rfl) ?_
    refine ops_ex rfl (guard_none rfl) rfl rfl (ex_move rfl rfl) ?_
    refine ops_ex rfl (guard_none rfl) rfl rfl (ex_len (d := kOut) (xs := x2) rfl rfl Tryz.underlying35 hp2) ?_
    refine ops_ex rfl (guard_none rfl) rfl rfl (ex_lss rfl rfl rfl) ?_
    refine ops_nil ?_
    refine at_then ?_
    refine run_cond (b := (decide (a3418 < (x2.length : Int)))) rfl (fun hb3447 => ?_) (fun hb3447 => ?_)
    · replace ho3388 := cond_t hb3447 ho3388
      refine run_skip ?_
      refine at_then ?_
      refine run_seq ?_
      refine run_block ?_
      refine run_seq ?_
      obtain ⟨e3448, ho3388⟩ := chk_some ho3388
      obtain ⟨e3452, ho3388⟩ := chk_some ho3388
      obtain ⟨t3456, h3457, ho3388⟩ := bind_some ho3388
      refine run_meet (fun ρ_ w_ => ∃ u3458 : Value, ∃ b3460 : Nat, ρ_ = [(1, .int .i64 x1), (2, p2), (3, .int .i64 x3), (4, .bool x4), (11, v3415), (12, .int .i64 a3418), (13, .pointer (some ⟨b3460, 0, none⟩))] ∧ Mem w [] w_ [own kCoin 77 v3415 a3416, box b3460 75 [.int .i64 ((gt x2 a3418).fValue), u3458, .int .i64 t3456.fNeed, .int .i64 t3456.fAfter], own kInt 2 u3458 t3456.fKeys]) ?_ ?_
      · skip
        refine run_draw (fun w_ => Mem w [] w_ [own kCoin 77 v3415 a3416]) mixed rfl (l := #[false, false, false, false, false, false, false, false, false, false, false, false, false, false]) rfl ?_
        replace HM := HM.grow (fr_drew _)
        have hS := Mem.suf (M := []) HM
        refine drw_take (i := 0) (l' := #[true, false, false, false, false, false, false, false, false, false, false, false, false, false]) rfl (guard_none rfl) rfl rfl (by kernel_rfl) (fun w_ hS_ => (ex_move rfl rfl)) hS ?_
        refine drw_take (i := 1) (l' := #[true, true, false, false, false, false, false, false, false, false, false, false, false, false]) rfl (guard_none rfl) rfl rfl (by kernel_rfl) (fun w_ hS_ => (ex_move rfl rfl)) hS ?_
        obtain ⟨kv3450, hc3449, hk3451⟩ : ∃ u, CellsAt _ (sb p2) (so p2 + (a3418).toNat * 4) [(.int .i64 ((gt x2 a3418).fValue)), u, (.int .i64 ((gt x2 a3418).fRule.fNeed)), (.int .i64 ((gt x2 a3418).fRule.fAfter))] ∧ RdS kInt _ u ((gt x2 a3418).fRule.fKeys) := rd_with1 hp2 e3448
        refine drw_take (i := 2) (l' := #[true, true, true, false, false, false, false, false, false, false, false, false, false, false]) rfl (guard_none rfl) rfl rfl (by kernel_rfl) (fun w_ hS_ => (ex_indexAddr (d := kOut) rfl rfl rfl Tryz.underlying35 tsz75 hp2 (idx_lo e3448) (idx_hi e3448))) hS ?_
        refine drw_take (i := 3) (l' := #[true, true, true, true, false, false, false, false, false, false, false, false, false, false]) rfl (guard_none rfl) rfl rfl (by kernel_rfl) (fun w_ hS_ => (ex_fieldAddr (off' := so p2 + (a3418).toNat * 4) rfl rfl Tryz.underlying75 rfl tsz2 rfl)) hS ?_
        refine drw_take (i := 4) (l' := #[true, true, true, true, true, false, false, false, false, false, false, false, false, false]) rfl (guard_none rfl) rfl rfl (by kernel_rfl) (fun w_ hS_ => (ex_load1 rfl rfl Tryz.underlying2 rfl ((hS_.at_ hc3449) 0 _ rfl))) hS ?_
        refine drw_take (i := 5) (l' := #[true, true, true, true, true, true, false, false, false, false, false, false, false, false]) rfl (guard_none rfl) rfl rfl (by kernel_rfl) (fun w_ hS_ => (ex_move rfl rfl)) hS ?_
        refine drw_take (i := 6) (l' := #[true, true, true, true, true, true, true, false, false, false, false, false, false, false]) rfl (guard_none rfl) rfl rfl (by kernel_rfl) (fun w_ hS_ => (ex_move rfl rfl)) hS ?_
        obtain ⟨kv3454, hc3453, hk3455⟩ : ∃ u, CellsAt _ (sb p2) (so p2 + (a3418).toNat * 4) [(.int .i64 ((gt x2 a3418).fValue)), u, (.int .i64 ((gt x2 a3418).fRule.fNeed)), (.int .i64 ((gt x2 a3418).fRule.fAfter))] ∧ RdS kInt _ u ((gt x2 a3418).fRule.fKeys) := rd_with1 hp2 e3452
        refine drw_take (i := 7) (l' := #[true, true, true, true, true, true, true, true, false, false, false, false, false, false]) rfl (guard_none rfl) rfl rfl (by kernel_rfl) (fun w_ hS_ => (ex_indexAddr (d := kOut) rfl rfl rfl Tryz.underlying35 tsz75 hp2 (idx_lo e3452) (idx_hi e3452))) hS ?_
        refine drw_take (i := 8) (l' := #[true, true, true, true, true, true, true, true, true, false, false, false, false, false]) rfl (guard_none rfl) rfl rfl (by kernel_rfl) (fun w_ hS_ => (ex_fieldAddr (off' := so p2 + (a3418).toNat * 4 + 1) rfl rfl Tryz.underlying75 rfl tsz73 rfl)) hS ?_
        refine drw_take (i := 9) (l' := #[true, true, true, true, true, true, true, true, true, true, false, false, false, false]) rfl (guard_none rfl) rfl rfl (by kernel_rfl) (fun w_ hS_ => (ex_loadN (cs := [kv3454, (.int .i64 ((gt x2 a3418).fRule.fNeed)), (.int .i64 ((gt x2 a3418).fRule.fAfter))]) rfl rfl Tryz.underlying73 rfl tsz73 rfl ((hS_.at_ hc3453).sub 1 3 rfl))) hS ?_
        refine drw_any [10, 12] (by kernel_rfl) rfl (.cons ?_ (.cons ?_ .nil))
        · skip
          refine br_does (l' := #[true, true, true, true, true, true, true, true, true, true, true, false, false, false]) rfl (guard_none rfl) rfl rfl (by kernel_rfl) (does_callk rfl callok115 rfl (spec_l2Copy.calls (x0 := (gt x2 a3418).fRule) (HM.rd hk3455) h3457)) ?_
          rintro _ w3463 ⟨u3458, rfl, hn⟩
          replace HM : Mem w [] w3463 [own kInt 2 u3458 t3456.fKeys, own kCoin 77 v3415 a3416] := HM.call hn
          refine ⟨Mem.suf (M := [own kInt 2 u3458 t3456.fKeys]) HM, ?_⟩
          have hS := Mem.suf (M := [own kInt 2 u3458 t3456.fKeys]) HM
          refine drw_take (i := 11) (l' := #[true, true, true, true, true, true, true, true, true, true, true, true, false, false]) rfl (guard_none rfl) rfl rfl (by kernel_rfl) (fun w_ hS_ => (ex_build1 (fun u3458 => [(0, .int .i64 ((gt x2 a3418).fValue)), (1, .agg #[u3458, (.int .i64 t3456.fNeed), (.int .i64 t3456.fAfter)])]) (fun u3458 => #[.int .i64 ((gt x2 a3418).fValue), u3458, .int .i64 t3456.fNeed, .int .i64 t3456.fAfter]) rfl rfl (fun _ _ _ => by kernel_rfl) (HM.own_rd 0 rfl).isSl)) hS ?_
          refine drw_any [12] (by kernel_rfl) rfl (.cons ?_ .nil)
          refine br_does (l' := #[true, true, true, true, true, true, true, true, true, true, true, true, true, false]) rfl (guard_none rfl) rfl rfl (by kernel_rfl) (does_alloc (cs := [.int .i64 0, .slice none 0 0, .int .i64 0, .int .i64 0]) rfl tz75 rfl HM) ?_
          rintro _ w3464 ⟨b3460, rfl, HM⟩
          refine ⟨Mem.suf (M := [box b3460 75 [.int .i64 0, .slice none 0 0, .int .i64 0, .int .i64 0], own kInt 2 u3458 t3456.fKeys]) HM, ?_⟩
          have hS := Mem.suf (M := [box b3460 75 [.int .i64 0, .slice none 0 0, .int .i64 0, .int .i64 0], own kInt 2 u3458 t3456.fKeys]) HM
          refine drw_any [13] (by kernel_rfl) rfl (.cons ?_ .nil)
          refine br_doesS (l' := #[true, true, true, true, true, true, true, true, true, true, true, true, true, true]) rfl (guard_none rfl) rfl (by kernel_rfl) (does_store (vs := [.int .i64 ((gt x2 a3418).fValue), u3458, .int .i64 t3456.fNeed, .int .i64 t3456.fAfter]) (cs' := [.int .i64 ((gt x2 a3418).fValue), u3458, .int .i64 t3456.fNeed, .int .i64 t3456.fAfter]) rfl rfl rfl rfl tsz75 (Ones.int (Ones.rd (HM.own_rd 1 rfl) (Ones.int (Ones.int Ones.nil)))) rfl rfl HM) ?_
          rintro w3465 HM
          refine ⟨Mem.suf (M := [box b3460 75 [.int .i64 ((gt x2 a3418).fValue), u3458, .int .i64 t3456.fNeed, .int .i64 t3456.fAfter], own kInt 2 u3458 t3456.fKeys]) HM, ?_⟩
          have hS := Mem.suf (M := [box b3460 75 [.int .i64 ((gt x2 a3418).fValue), u3458, .int .i64 t3456.fNeed, .int .i64 t3456.fAfter], own kInt 2 u3458 t3456.fKeys]) HM
          refine drw_done (by kernel_rfl) ?_
          replace HM := HM.front 1 rfl rfl
          replace HM := HM.front 1 rfl rfl
          replace HM := HM.front 2 rfl rfl
          exact at_meet [(1, .int .i64 x1), (2, p2), (3, .int .i64 x3), (4, .bool x4), (11, v3415), (12, .int .i64 a3418), (13, .pointer (some ⟨b3460, 0, none⟩))] ⟨_, _, rfl, HM⟩ (Sub.cons rfl (Sub.cons rfl (Sub.cons rfl (Sub.cons rfl (Sub.cons rfl (Sub.cons rfl (Sub.cons rfl Sub.nil)))))))
        · skip
          refine br_does (l' := #[true, true, true, true, true, true, true, true, true, true, false, false, true, false]) rfl (guard_none rfl) rfl rfl (by kernel_rfl) (does_alloc (cs := [.int .i64 0, .slice none 0 0, .int .i64 0, .int .i64 0]) rfl tz75 rfl HM) ?_
          rintro _ w3466 ⟨b3460, rfl, HM⟩
          refine ⟨Mem.suf (M := [box b3460 75 [.int .i64 0, .slice none 0 0, .int .i64 0, .int .i64 0]]) HM, ?_⟩
          have hS := Mem.suf (M := [box b3460 75 [.int .i64 0, .slice none 0 0, .int .i64 0, .int .i64 0]]) HM
          refine drw_any [10] (by kernel_rfl) rfl (.cons ?_ .nil)
          refine br_does (l' := #[true, true, true, true, true, true, true, true, true, true, true, false, true, false]) rfl (guard_none rfl) rfl rfl (by kernel_rfl) (does_callk rfl callok115 rfl (spec_l2Copy.calls (x0 := (gt x2 a3418).fRule) (HM.rd hk3455) h3457)) ?_
          rintro _ w3467 ⟨u3458, rfl, hn⟩
          replace HM : Mem w [] w3467 [own kInt 2 u3458 t3456.fKeys, box b3460 75 [.int .i64 0, .slice none 0 0, .int .i64 0, .int .i64 0], own kCoin 77 v3415 a3416] := HM.call hn
          refine ⟨Mem.suf (M := [own kInt 2 u3458 t3456.fKeys, box b3460 75 [.int .i64 0, .slice none 0 0, .int .i64 0, .int .i64 0]]) HM, ?_⟩
          have hS := Mem.suf (M := [own kInt 2 u3458 t3456.fKeys, box b3460 75 [.int .i64 0, .slice none 0 0, .int .i64 0, .int .i64 0]]) HM
          refine drw_take (i := 11) (l' := #[true, true, true, true, true, true, true, true, true, true, true, true, true, false]) rfl (guard_none rfl) rfl rfl (by kernel_rfl) (fun w_ hS_ => (ex_build1 (fun u3458 => [(0, .int .i64 ((gt x2 a3418).fValue)), (1, .agg #[u3458, (.int .i64 t3456.fNeed), (.int .i64 t3456.fAfter)])]) (fun u3458 => #[.int .i64 ((gt x2 a3418).fValue), u3458, .int .i64 t3456.fNeed, .int .i64 t3456.fAfter]) rfl rfl (fun _ _ _ => by kernel_rfl) (HM.own_rd 0 rfl).isSl)) hS ?_
          replace HM := HM.front 1 rfl rfl
          refine drw_any [13] (by kernel_rfl) rfl (.cons ?_ .nil)
          refine br_doesS (l' := #[true, true, true, true, true, true, true, true, true, true, true, true, true, true]) rfl (guard_none rfl) rfl (by kernel_rfl) (does_store (vs := [.int .i64 ((gt x2 a3418).fValue), u3458, .int .i64 t3456.fNeed, .int .i64 t3456.fAfter]) (cs' := [.int .i64 ((gt x2 a3418).fValue), u3458, .int .i64 t3456.fNeed, .int .i64 t3456.fAfter]) rfl rfl rfl rfl tsz75 (Ones.int (Ones.rd (HM.own_rd 1 rfl) (Ones.int (Ones.int Ones.nil)))) rfl rfl HM) ?_
          rintro w3468 HM
          refine ⟨Mem.suf (M := [box b3460 75 [.int .i64 ((gt x2 a3418).fValue), u3458, .int .i64 t3456.fNeed, .int .i64 t3456.fAfter], own kInt 2 u3458 t3456.fKeys]) HM, ?_⟩
          have hS := Mem.suf (M := [box b3460 75 [.int .i64 ((gt x2 a3418).fValue), u3458, .int .i64 t3456.fNeed, .int .i64 t3456.fAfter], own kInt 2 u3458 t3456.fKeys]) HM
          refine drw_done (by kernel_rfl) ?_
          replace HM := HM.front 1 rfl rfl
          replace HM := HM.front 1 rfl rfl
          replace HM := HM.front 2 rfl rfl
          exact at_meet [(1, .int .i64 x1), (2, p2), (3, .int .i64 x3), (4, .bool x4), (11, v3415), (12, .int .i64 a3418), (13, .pointer (some ⟨b3460, 0, none⟩))] ⟨_, _, rfl, HM⟩ (Sub.cons rfl (Sub.cons rfl (Sub.cons rfl (Sub.cons rfl (Sub.cons rfl (Sub.cons rfl (Sub.cons rfl Sub.nil)))))))
      · rintro _ w3469 ⟨u3458, b3460, rfl, HM⟩
        refine at_then ?_
        obtain ⟨t3470, h3471, ho3388⟩ := bind_some ho3388
        refine run_region rfl ?_
        refine ops_ex rfl (guard_none rfl) rfl rfl (ex_move rfl rfl) ?_
        refine ops_ex rfl (guard_none rfl) rfl rfl (ex_move rfl rfl) ?_
        refine ops_ex rfl (guard_none rfl) rfl rfl (ex_move rfl rfl) ?_
        refine ops_ex rfl (guard_none rfl) rfl rfl (ex_build (cells := #[(.int .i64 x1), (.int .i64 a3418)]) rfl rfl (by kernel_rfl)) ?_
        refine ops_ex rfl (guard_none rfl) rfl rfl (ex_loadN (cs := [(.int .i64 ((gt x2 a3418).fValue)), u3458, (.int .i64 t3456.fNeed), (.int .i64 t3456.fAfter)]) rfl rfl Tryz.underlying75 rfl tsz75 rfl ((HM.box_at 1 rfl).sub 0 4 rfl)) ?_
        refine ops_ex rfl (guard_none rfl) rfl rfl (ex_move rfl rfl) ?_
        refine ops_ex rfl (guard_none rfl) rfl rfl (ex_move rfl rfl) ?_
        refine ops_ex rfl (guard_none rfl) rfl rfl (ex_build1 (fun u3458 => [(0, .agg #[(.int .i64 x1), (.int .i64 a3418)]), (1, .agg #[(.int .i64 ((gt x2 a3418).fValue)), u3458, (.int .i64 t3456.fNeed), (.int .i64 t3456.fAfter)]), (2, .int .i64 x3), (3, .bool x4)]) (fun u3458 => #[.int .i64 x1, .int .i64 a3418, .int .i64 ((gt x2 a3418).fValue), u3458, .int .i64 t3456.fNeed, .int .i64 t3456.fAfter, .int .i64 x3, .bool x4]) rfl rfl (fun _ _ _ => by kernel_rfl) (HM.own_rd 2 rfl).isSl) ?_
        replace HM := HM.front 2 rfl rfl
        replace HM := HM.front 1 rfl rfl
        obtain ⟨F3474, hF3475, hFn3476, hFl3477, HMh3478, hcl3479⟩ := HM.hide (Ms := [own kCoin 77 v3415 a3416, own kInt 2 u3458 t3456.fKeys])
        refine ops_does rfl (guard_none rfl) rfl rfl (does_callk rfl callok89 rfl (spec_l4Add.calls (x0 := a3416) (x1 := (⟨(⟨x1, a3418⟩ : Ref), (⟨(gt x2 a3418).fValue, t3456⟩ : Out), x3, x4⟩ : Coin)) (hide_olds _ _) hF3475 hFn3476 hFl3477 h3471)) ?_
        rintro u3472 w3480 ⟨_, rfl, hn⟩
        replace HM : Mem w [] w3480 [own kCoin 77 u3472 t3470, box b3460 75 [.int .i64 ((gt x2 a3418).fValue), u3458, .int .i64 t3456.fNeed, .int .i64 t3456.fAfter]] := hcl3479 _ _ hn
        refine ops_ex rfl (guard_none rfl) rfl rfl (ex_assign rfl rfl) ?_
        refine ops_nil ?_
        refine at_block ?_
        refine at_then ?_
        refine run_region rfl ?_
        refine ops_ex rfl (guard_none rfl) rfl rfl (ex_move rfl rfl) ?_
        refine ops_ex rfl (guard_none rfl) rfl rfl (ex_add rfl rfl rfl) ?_
        refine ops_ex rfl (guard_none rfl) rfl rfl (ex_assign rfl rfl) ?_
        refine ops_nil ?_
        replace HM := (HM.front 1 rfl rfl).drop
        exact at_again k3445 (ρ1 := [(1, .int .i64 x1), (2, p2), (3, .int .i64 x3), (4, .bool x4), (11, u3472), (12, .int .i64 (wrap64 (a3418 + 1)))]) (Nat.lt_succ_self _) ⟨_, _, _, ho3388, rfl, HM⟩ (Sub.cons rfl (Sub.cons rfl (Sub.cons rfl (Sub.cons rfl (Sub.cons rfl (Sub.cons rfl Sub.nil))))))
    · replace ho3388 := cond_f hb3447 ho3388
      refine run_exit ?_
      refine at_then_exit ?_
      refine at_then_exit ?_
      refine at_block_exit ?_
      exact at_mid (ρ' := [(11, v3415)]) ⟨_, _, (Option.some.inj ho3388), rfl, HM⟩ (Sub.cons rfl Sub.nil)
  · rintro _ w3481 ⟨v3384, a3385, rfl, rfl, HM⟩
    refine run_seq ?_
    refine run_region rfl ?_
    refine ops_ex rfl (guard_none rfl) rfl rfl (ex_move rfl rfl) ?_
    refine ops_ex rfl (guard_none rfl) rfl rfl (ex_assign rfl rfl) ?_
    refine ops_nil ?_
    refine at_then ?_
    refine run_ret ?_
    have hR := Option.some.inj H
    subst hR
    exact at_ret1 rfl rfl ⟨_, rfl, _, rfl, HM⟩

def spec_PutCoins.l0 (x2 : List Out) : Nat → Int → Option (CoinsResult ⊕ Unit)
  | 0, _ => none
  | k + 1, a3555 => (bif (decide (a3555 < (x2.length : Int))) then (chk (idxOk a3555 x2.length) ((spec_l4Out.f k (gt x2 a3555)).bind fun t3571 => (bif (t3571 != 0) then some (.inl (⟨t3571, ([] : List Coin)⟩ : CoinsResult)) else spec_PutCoins.l0 x2 k (wrap64 (a3555 + 1))))) else some (.inr ()))
theorem spec_PutCoins.l0_z (x2 : List Out) (a3555 : Int) : spec_PutCoins.l0 x2 0 a3555 = none := rfl
theorem spec_PutCoins.l0_s (x2 : List Out) (k : Nat) (a3555 : Int) : spec_PutCoins.l0 x2 (k + 1) a3555 = (bif (decide (a3555 < (x2.length : Int))) then (chk (idxOk a3555 x2.length) ((spec_l4Out.f k (gt x2 a3555)).bind fun t3571 => (bif (t3571 != 0) then some (.inl (⟨t3571, ([] : List Coin)⟩ : CoinsResult)) else spec_PutCoins.l0 x2 k (wrap64 (a3555 + 1))))) else some (.inr ())) := rfl
def spec_PutCoins.f (k : Nat) (x0 : List Coin) (x1 : Int) (x2 : List Out) (x3 : Int) (x4 : Bool) : Option CoinsResult := ((spec_l4Fault.f k x0).bind fun t3493 => (bif (t3493 != 0) then some (⟨t3493, ([] : List Coin)⟩ : CoinsResult) else ((spec_l1In.f k x1 1 60).bind fun t3504 => ((bif (!(!t3504)) then spec_l2Height.f k x3 else some default).bind fun t3506 => (bif ((!t3504) || (!t3506)) then some (⟨3, ([] : List Coin)⟩ : CoinsResult) else (bif (decide (4 < (x2.length : Int))) then some (⟨2, ([] : List Coin)⟩ : CoinsResult) else ((spec_PutCoins.l0 x2 k 0).bind fun o3545 => thn o3545 (fun r => some r) (fun _ => ((spec_l4Of.f k x0 x1).bind fun t3581 => (bif t3581 then some (⟨7, ([] : List Coin)⟩ : CoinsResult) else (bif (decide (40 < (wrap64 ((x0.length : Int) + (x2.length : Int))))) then some (⟨2, ([] : List Coin)⟩ : CoinsResult) else ((spec_l4Put.f k x0 x1 x2 x3 x4).bind fun t3591 => some (⟨0, t3591⟩ : CoinsResult)))))))))))))
theorem spec_PutCoins.calls {k : Nat} {x0 : List Coin} {x1 : Int} {x2 : List Out} {x3 : Int} {x4 : Bool} {p0 : Value} {p2 : Value} {w : World} (hp0 : RdS kCoin w p0 x0) (hp2 : RdS kOut w p2 x2) {r : CoinsResult} (H : spec_PutCoins.f k x0 x1 x2 x3 x4 = some r) :
    Calls Tryz.prog 54 ([p0, .int .i64 x1, p2, .int .i64 x3, .bool x4] : List Value).toArray w (fun e w_ => ∃ v, e = .returned v ∧ ∃ u0 : Value, v = (.agg #[.int .i64 r.fCode, u0]) ∧ Mem w [] w_ [own kCoin 77 u0 r.fCoins]) := by
  have HM := Mem.start w
  refine calls_run (N := 65) Tryz.func54 rfl rfl rfl rfl ?_
  unfold spec_PutCoins.f at H
  refine run_seq ?_
  refine run_region rfl ?_
  refine ops_does rfl (guard_none rfl) rfl rfl (does_alloc (cs := [.int .i64 0, .slice none 0 0]) rfl tz31 rfl HM) ?_
  rintro _ w3489 ⟨b3486, rfl, HM⟩
  refine ops_nil ?_
  refine at_then ?_
  refine run_seq ?_
  refine run_seq ?_
  obtain ⟨t3493, h3494, H⟩ := bind_some H
  refine run_region rfl ?_
  refine ops_ex rfl (guard_none rfl) rfl rfl (ex_move rfl rfl) ?_
  refine ops_does rfl (guard_none rfl) rfl rfl (does_callk rfl callok32 rfl (spec_l4Fault.calls (x0 := x0) (HM.rd hp0) h3494)) ?_
  rintro _ w3495 ⟨rfl, hn⟩
  replace HM : Mem w [] w3495 [box b3486 31 [.int .i64 0, .slice none 0 0]] := HM.call hn
  refine ops_ex rfl (guard_none rfl) rfl rfl (ex_assign rfl rfl) ?_
  refine ops_nil ?_
  refine at_then ?_
  refine run_seq ?_
  refine run_region rfl ?_
  refine ops_ex rfl (guard_none rfl) rfl rfl (ex_move rfl rfl) ?_
  refine ops_ex rfl (guard_none rfl) rfl rfl (ex_neq rfl rfl rfl) ?_
  refine ops_nil ?_
  refine at_then ?_
  refine run_cond (b := (t3493 != 0)) rfl (fun hb3496 => ?_) (fun hb3496 => ?_)
  · replace H := cond_t hb3496 H
    refine run_seq ?_
    refine run_region rfl ?_
    refine ops_ex rfl (guard_none rfl) rfl rfl (ex_move rfl rfl) ?_
    refine ops_ex rfl (guard_none rfl) rfl rfl (ex_build (cells := #[(.int .i64 t3493), (.slice none 0 0)]) rfl rfl (by kernel_rfl)) ?_
    refine ops_doesS rfl (guard_none rfl) rfl (does_store (vs := [.int .i64 t3493, .slice none 0 0]) (cs' := [.int .i64 t3493, .slice none 0 0]) rfl rfl rfl rfl tsz31 (Ones.int (Ones.sl Ones.nil)) rfl rfl HM) ?_
    rintro w3497 HM
    refine ops_nil ?_
    refine at_then ?_
    refine run_ret ?_
    refine at_then_ret ?_
    replace HM := HM.empty kCoin 77 none
    replace HM := HM.front 1 rfl rfl
    have hcb0 := HM.box_at 0 rfl
    replace HM := (HM.front 0 rfl rfl).drop
    have hR := Option.some.inj H
    subst hR
    exact at_retN rfl rfl Tryz.underlying31 rfl tsz31 rfl hcb0 ⟨_, rfl, _, rfl, HM⟩
  · replace H := cond_f hb3496 H
    refine run_skip ?_
    refine at_then ?_
    refine run_seq ?_
    refine run_seq ?_
    obtain ⟨t3504, h3505, H⟩ := bind_some H
    obtain ⟨t3506, h3507, H⟩ := bind_some H
    refine run_meet (fun ρ_ w_ => ρ_ = [(0, p0), (1, .int .i64 x1), (2, p2), (3, .int .i64 x3), (4, .bool x4), (10, .pointer (some ⟨b3486, 0, none⟩)), (27, .bool ((!t3504) || (!t3506)))] ∧ Mem w [] w_ [box b3486 31 [.int .i64 0, .slice none 0 0]]) ?_ ?_
    · skip
      refine run_region rfl ?_
      refine ops_ex rfl (guard_none rfl) rfl rfl (ex_move rfl rfl) ?_
      refine ops_does rfl (guard_none rfl) rfl rfl (does_callk rfl callok47 rfl (spec_l1In.calls (x0 := x1) (x1 := 1) (x2 := 60) h3505)) ?_
      rintro _ w3508 ⟨rfl, hn⟩
      replace HM : Mem w [] w3508 [box b3486 31 [.int .i64 0, .slice none 0 0]] := HM.call hn
      refine ops_ex rfl (guard_none rfl) rfl rfl (ex_not rfl rfl) ?_
      refine ops_ex rfl (guard_none rfl) rfl rfl (ex_move rfl rfl) ?_
      refine bool_cases (!t3504) (fun hg3509 => ?_) (fun hg3509 => ?_)
      · skip
        refine ops_off rfl (guard_off rfl rfl rfl hg3509) rfl rfl ?_
        refine ops_off rfl (guard_off rfl rfl rfl hg3509) rfl rfl ?_
        refine ops_off rfl (guard_off rfl rfl rfl hg3509) rfl rfl ?_
        have hg3510 : ((!t3504) || (!t3506)) = true := by simp only [hg3509, Bool.and_true, Bool.true_and, Bool.and_false, Bool.false_and, Bool.or_true, Bool.true_or, Bool.or_false, Bool.false_or, Bool.not_true, Bool.not_false, Bool.not_not]
        refine ops_ex (v := .bool ((!t3504) || (!t3506))) rfl (guard_none rfl) rfl rfl (ex_por_t rfl rfl hg3509) ?_
        refine ops_nil ?_
        exact at_meet [(0, p0), (1, .int .i64 x1), (2, p2), (3, .int .i64 x3), (4, .bool x4), (10, .pointer (some ⟨b3486, 0, none⟩)), (27, .bool ((!t3504) || (!t3506)))] ⟨rfl, HM⟩ (Sub.cons rfl (Sub.cons rfl (Sub.cons rfl (Sub.cons rfl (Sub.cons rfl (Sub.cons rfl (Sub.cons rfl Sub.nil)))))))
      · skip
        refine ops_ex rfl (guard_on rfl rfl rfl hg3509) rfl rfl (ex_move rfl rfl) ?_
        refine ops_does rfl (guard_on rfl rfl rfl hg3509) rfl rfl (does_callk rfl callok71 rfl (spec_l2Height.calls (x0 := x3) (cond_t (not_mk hg3509) h3507))) ?_
        rintro _ w3511 ⟨rfl, hn⟩
        replace HM : Mem w [] w3511 [box b3486 31 [.int .i64 0, .slice none 0 0]] := HM.call hn
        refine ops_ex rfl (guard_on rfl rfl rfl hg3509) rfl rfl (ex_not rfl rfl) ?_
        refine ops_ex (v := .bool ((!t3504) || (!t3506))) rfl (guard_none rfl) rfl rfl (ex_por_f rfl rfl hg3509 rfl) ?_
        refine ops_nil ?_
        exact at_meet [(0, p0), (1, .int .i64 x1), (2, p2), (3, .int .i64 x3), (4, .bool x4), (10, .pointer (some ⟨b3486, 0, none⟩)), (27, .bool ((!t3504) || (!t3506)))] ⟨rfl, HM⟩ (Sub.cons rfl (Sub.cons rfl (Sub.cons rfl (Sub.cons rfl (Sub.cons rfl (Sub.cons rfl (Sub.cons rfl Sub.nil)))))))
    · rintro _ w3512 ⟨rfl, HM⟩
      refine at_then ?_
      refine run_cond (b := ((!t3504) || (!t3506))) rfl (fun hb3513 => ?_) (fun hb3513 => ?_)
      · replace H := cond_t hb3513 H
        refine run_seq ?_
        refine run_region rfl ?_
        refine ops_ex rfl (guard_none rfl) rfl rfl (ex_build (cells := #[(.int .i64 3), (.slice none 0 0)]) rfl rfl (by kernel_rfl)) ?_
        refine ops_doesS rfl (guard_none rfl) rfl (does_store (vs := [.int .i64 3, .slice none 0 0]) (cs' := [.int .i64 3, .slice none 0 0]) rfl rfl rfl rfl tsz31 (Ones.int (Ones.sl Ones.nil)) rfl rfl HM) ?_
        rintro w3514 HM
        refine ops_nil ?_
        refine at_then ?_
        refine run_ret ?_
        refine at_then_ret ?_
        replace HM := HM.empty kCoin 77 none
        replace HM := HM.front 1 rfl rfl
        have hcb0 := HM.box_at 0 rfl
        replace HM := (HM.front 0 rfl rfl).drop
        have hR := Option.some.inj H
        subst hR
        exact at_retN rfl rfl Tryz.underlying31 rfl tsz31 rfl hcb0 ⟨_, rfl, _, rfl, HM⟩
      · replace H := cond_f hb3513 H
        refine run_skip ?_
        refine at_then ?_
        refine run_seq ?_
        refine run_seq ?_
        refine run_region rfl ?_
        refine ops_ex rfl (guard_none rfl) rfl rfl (ex_move rfl rfl) ?_
        refine ops_ex rfl (guard_none rfl) rfl rfl (ex_len (d := kOut) (xs := x2) rfl rfl Tryz.underlying35 hp2) ?_
        refine ops_ex rfl (guard_none rfl) rfl rfl (ex_gtr rfl rfl rfl) ?_
        refine ops_nil ?_
        refine at_then ?_
        refine run_cond (b := (decide (4 < (x2.length : Int)))) rfl (fun hb3517 => ?_) (fun hb3517 => ?_)
        · replace H := cond_t hb3517 H
          refine run_seq ?_
          refine run_region rfl ?_
          refine ops_ex rfl (guard_none rfl) rfl rfl (ex_build (cells := #[(.int .i64 2), (.slice none 0 0)]) rfl rfl (by kernel_rfl)) ?_
          refine ops_doesS rfl (guard_none rfl) rfl (does_store (vs := [.int .i64 2, .slice none 0 0]) (cs' := [.int .i64 2, .slice none 0 0]) rfl rfl rfl rfl tsz31 (Ones.int (Ones.sl Ones.nil)) rfl rfl HM) ?_
          rintro w3518 HM
          refine ops_nil ?_
          refine at_then ?_
          refine run_ret ?_
          refine at_then_ret ?_
          replace HM := HM.empty kCoin 77 none
          replace HM := HM.front 1 rfl rfl
          have hcb0 := HM.box_at 0 rfl
          replace HM := (HM.front 0 rfl rfl).drop
          have hR := Option.some.inj H
          subst hR
          exact at_retN rfl rfl Tryz.underlying31 rfl tsz31 rfl hcb0 ⟨_, rfl, _, rfl, HM⟩
        · replace H := cond_f hb3517 H
          refine run_skip ?_
          refine at_then ?_
          obtain ⟨o3545, ho3546, H⟩ := bind_some H
          refine run_mid (fun ρ_ w_ => Sum.inr () = o3545 ∧ ρ_ = [(0, p0), (1, .int .i64 x1), (2, p2), (3, .int .i64 x3), (4, .bool x4), (10, .pointer (some ⟨b3486, 0, none⟩))] ∧ Mem w [] w_ [box b3486 31 [.int .i64 0, .slice none 0 0]]) ?_ ?_
          · skip
            refine run_seq ?_
            refine run_region rfl ?_
            refine ops_ex rfl (guard_none rfl) rfl rfl (ex_assign rfl rfl) ?_
            refine ops_nil ?_
            refine at_then ?_
            refine run_block ?_
            refine run_loop (fun k_ ρ_ w_ => ∃ a3555 : Int, spec_PutCoins.l0 x2 k_ a3555 = some o3545 ∧ ρ_ = [(0, p0), (1, .int .i64 x1), (2, p2), (3, .int .i64 x3), (4, .bool x4), (10, .pointer (some ⟨b3486, 0, none⟩)), (12, .int .i64 a3555)] ∧ Mem w [] w_ [box b3486 31 [.int .i64 0, .slice none 0 0]]) k (ρ1 := [(0, p0), (1, .int .i64 x1), (2, p2), (3, .int .i64 x3), (4, .bool x4), (10, .pointer (some ⟨b3486, 0, none⟩)), (12, .int .i64 0)]) ⟨_, ho3546, rfl, HM⟩ (Sub.cons rfl (Sub.cons rfl (Sub.cons rfl (Sub.cons rfl (Sub.cons rfl (Sub.cons rfl (Sub.cons rfl Sub.nil))))))) ?_
            clear HM ho3546
            rintro k3564 _ w3565 ⟨a3555, ho3546, rfl, HM⟩
            obtain _ | k3564 := k3564
            · exact nomatch ((spec_PutCoins.l0_z x2 a3555).symm.trans ho3546)
            replace ho3546 := (spec_PutCoins.l0_s x2 k3564 a3555).symm.trans ho3546
            refine run_seq ?_
            refine run_seq ?_
            refine run_region rfl ?_
            refine ops_ex rfl (guard_none rfl) rfl rfl (ex_move rfl rfl) ?_
            refine ops_ex rfl (guard_none rfl) rfl rfl (ex_move rfl rfl) ?_
            refine ops_ex rfl (guard_none rfl) rfl rfl (ex_len (d := kOut) (xs := x2) rfl rfl Tryz.underlying35 hp2) ?_
            refine ops_ex rfl (guard_none rfl) rfl rfl (ex_lss rfl rfl rfl) ?_
            refine ops_nil ?_
            refine at_then ?_
            refine run_cond (b := (decide (a3555 < (x2.length : Int)))) rfl (fun hb3566 => ?_) (fun hb3566 => ?_)
            · replace ho3546 := cond_t hb3566 ho3546
              refine run_skip ?_
              refine at_then ?_
              refine run_seq ?_
              refine run_block ?_
              refine run_seq ?_
              obtain ⟨e3567, ho3546⟩ := chk_some ho3546
              obtain ⟨t3571, h3572, ho3546⟩ := bind_some ho3546
              refine run_region rfl ?_
              refine ops_ex rfl (guard_none rfl) rfl rfl (ex_move rfl rfl) ?_
              refine ops_ex rfl (guard_none rfl) rfl rfl (ex_move rfl rfl) ?_
              obtain ⟨kv3569, hc3568, hk3570⟩ : ∃ u, CellsAt _ (sb p2) (so p2 + (a3555).toNat * 4) [(.int .i64 ((gt x2 a3555).fValue)), u, (.int .i64 ((gt x2 a3555).fRule.fNeed)), (.int .i64 ((gt x2 a3555).fRule.fAfter))] ∧ RdS kInt _ u ((gt x2 a3555).fRule.fKeys) := rd_with1 hp2 e3567
              refine ops_ex rfl (guard_none rfl) rfl rfl (ex_indexAddr (d := kOut) rfl rfl rfl Tryz.underlying35 tsz75 hp2 (idx_lo e3567) (idx_hi e3567)) ?_
              refine ops_does rfl (guard_none rfl) rfl rfl (does_callk rfl callok72 rfl (spec_l4Out.calls (x0 := (gt x2 a3555)) (HM.at_ hc3568) (HM.rd hk3570) h3572)) ?_
              rintro _ w3573 ⟨rfl, hn⟩
              replace HM : Mem w [] w3573 [box b3486 31 [.int .i64 0, .slice none 0 0]] := HM.call hn
              refine ops_ex rfl (guard_none rfl) rfl rfl (ex_assign rfl rfl) ?_
              refine ops_nil ?_
              refine at_then ?_
              refine run_seq ?_
              refine run_region rfl ?_
              refine ops_ex rfl (guard_none rfl) rfl rfl (ex_move rfl rfl) ?_
              refine ops_ex rfl (guard_none rfl) rfl rfl (ex_neq rfl rfl rfl) ?_
              refine ops_nil ?_
              refine at_then ?_
              refine run_cond (b := (t3571 != 0)) rfl (fun hb3574 => ?_) (fun hb3574 => ?_)
              · replace ho3546 := cond_t hb3574 ho3546
                refine run_seq ?_
                refine run_region rfl ?_
                refine ops_ex rfl (guard_none rfl) rfl rfl (ex_move rfl rfl) ?_
                refine ops_ex rfl (guard_none rfl) rfl rfl (ex_build (cells := #[(.int .i64 t3571), (.slice none 0 0)]) rfl rfl (by kernel_rfl)) ?_
                refine ops_doesS rfl (guard_none rfl) rfl (does_store (vs := [.int .i64 t3571, .slice none 0 0]) (cs' := [.int .i64 t3571, .slice none 0 0]) rfl rfl rfl rfl tsz31 (Ones.int (Ones.sl Ones.nil)) rfl rfl HM) ?_
                rintro w3575 HM
                refine ops_nil ?_
                refine at_then ?_
                refine run_ret ?_
                refine at_block_ret ?_
                refine at_then_ret ?_
                refine at_then_ret ?_
                refine at_block_ret ?_
                refine at_then_ret ?_
                replace HM := HM.empty kCoin 77 none
                replace HM := HM.front 1 rfl rfl
                have hcb0 := HM.box_at 0 rfl
                replace HM := (HM.front 0 rfl rfl).drop
                have hR := Option.some.inj ho3546
                subst hR
                have hT := thn_inl H
                have hR := Option.some.inj hT
                subst hR
                exact at_retN rfl rfl Tryz.underlying31 rfl tsz31 rfl hcb0 ⟨_, rfl, _, rfl, HM⟩
              · replace ho3546 := cond_f hb3574 ho3546
                refine run_skip ?_
                refine at_block ?_
                refine at_then ?_
                refine run_region rfl ?_
                refine ops_ex rfl (guard_none rfl) rfl rfl (ex_move rfl rfl) ?_
                refine ops_ex rfl (guard_none rfl) rfl rfl (ex_add rfl rfl rfl) ?_
                refine ops_ex rfl (guard_none rfl) rfl rfl (ex_assign rfl rfl) ?_
                refine ops_nil ?_
                exact at_again k3564 (ρ1 := [(0, p0), (1, .int .i64 x1), (2, p2), (3, .int .i64 x3), (4, .bool x4), (10, .pointer (some ⟨b3486, 0, none⟩)), (12, .int .i64 (wrap64 (a3555 + 1)))]) (Nat.lt_succ_self _) ⟨_, ho3546, rfl, HM⟩ (Sub.cons rfl (Sub.cons rfl (Sub.cons rfl (Sub.cons rfl (Sub.cons rfl (Sub.cons rfl (Sub.cons rfl Sub.nil)))))))
            · replace ho3546 := cond_f hb3566 ho3546
              refine run_exit ?_
              refine at_then_exit ?_
              refine at_then_exit ?_
              refine at_block_exit ?_
              exact at_mid (ρ' := [(0, p0), (1, .int .i64 x1), (2, p2), (3, .int .i64 x3), (4, .bool x4), (10, .pointer (some ⟨b3486, 0, none⟩))]) ⟨(Option.some.inj ho3546), rfl, HM⟩ (Sub.cons rfl (Sub.cons rfl (Sub.cons rfl (Sub.cons rfl (Sub.cons rfl (Sub.cons rfl Sub.nil))))))
          · rintro _ w3577 ⟨rfl, rfl, HM⟩
            replace H := (thn_inr H)
            refine run_seq ?_
            refine run_seq ?_
            obtain ⟨t3581, h3582, H⟩ := bind_some H
            refine run_region rfl ?_
            refine ops_ex rfl (guard_none rfl) rfl rfl (ex_move rfl rfl) ?_
            refine ops_ex rfl (guard_none rfl) rfl rfl (ex_move rfl rfl) ?_
            refine ops_does rfl (guard_none rfl) rfl rfl (does_callk rfl callok52 rfl (spec_l4Of.calls (x0 := x0) (x1 := x1) (HM.rd hp0) h3582)) ?_
            rintro _ w3583 ⟨rfl, hn⟩
            replace HM : Mem w [] w3583 [box b3486 31 [.int .i64 0, .slice none 0 0]] := HM.call hn
            refine ops_nil ?_
            refine at_then ?_
            refine run_cond (b := t3581) rfl (fun hb3584 => ?_) (fun hb3584 => ?_)
            · replace H := cond_t hb3584 H
              refine run_seq ?_
              refine run_region rfl ?_
              refine ops_ex rfl (guard_none rfl) rfl rfl (ex_build (cells := #[(.int .i64 7), (.slice none 0 0)]) rfl rfl (by kernel_rfl)) ?_
              refine ops_doesS rfl (guard_none rfl) rfl (does_store (vs := [.int .i64 7, .slice none 0 0]) (cs' := [.int .i64 7, .slice none 0 0]) rfl rfl rfl rfl tsz31 (Ones.int (Ones.sl Ones.nil)) rfl rfl HM) ?_
              rintro w3585 HM
              refine ops_nil ?_
              refine at_then ?_
              refine run_ret ?_
              refine at_then_ret ?_
              replace HM := HM.empty kCoin 77 none
              replace HM := HM.front 1 rfl rfl
              have hcb0 := HM.box_at 0 rfl
              replace HM := (HM.front 0 rfl rfl).drop
              have hR := Option.some.inj H
              subst hR
              exact at_retN rfl rfl Tryz.underlying31 rfl tsz31 rfl hcb0 ⟨_, rfl, _, rfl, HM⟩
            · replace H := cond_f hb3584 H
              refine run_skip ?_
              refine at_then ?_
              refine run_seq ?_
              refine run_seq ?_
              refine run_region rfl ?_
              refine ops_ex rfl (guard_none rfl) rfl rfl (ex_move rfl rfl) ?_
              refine ops_ex rfl (guard_none rfl) rfl rfl (ex_len (d := kCoin) (xs := x0) rfl rfl Tryz.underlying29 hp0) ?_
              refine ops_ex rfl (guard_none rfl) rfl rfl (ex_move rfl rfl) ?_
              refine ops_ex rfl (guard_none rfl) rfl rfl (ex_len (d := kOut) (xs := x2) rfl rfl Tryz.underlying35 hp2) ?_
              refine ops_ex rfl (guard_none rfl) rfl rfl (ex_add rfl rfl rfl) ?_
              refine ops_ex rfl (guard_none rfl) rfl rfl (ex_gtr rfl rfl rfl) ?_
              refine ops_nil ?_
              refine at_then ?_
              refine run_cond (b := (decide (40 < (wrap64 ((x0.length : Int) + (x2.length : Int)))))) rfl (fun hb3588 => ?_) (fun hb3588 => ?_)
              · replace H := cond_t hb3588 H
                refine run_seq ?_
                refine run_region rfl ?_
                refine ops_ex rfl (guard_none rfl) rfl rfl (ex_build (cells := #[(.int .i64 2), (.slice none 0 0)]) rfl rfl (by kernel_rfl)) ?_
                refine ops_doesS rfl (guard_none rfl) rfl (does_store (vs := [.int .i64 2, .slice none 0 0]) (cs' := [.int .i64 2, .slice none 0 0]) rfl rfl rfl rfl tsz31 (Ones.int (Ones.sl Ones.nil)) rfl rfl HM) ?_
                rintro w3589 HM
                refine ops_nil ?_
                refine at_then ?_
                refine run_ret ?_
                refine at_then_ret ?_
                replace HM := HM.empty kCoin 77 none
                replace HM := HM.front 1 rfl rfl
                have hcb0 := HM.box_at 0 rfl
                replace HM := (HM.front 0 rfl rfl).drop
                have hR := Option.some.inj H
                subst hR
                exact at_retN rfl rfl Tryz.underlying31 rfl tsz31 rfl hcb0 ⟨_, rfl, _, rfl, HM⟩
              · replace H := cond_f hb3588 H
                refine run_skip ?_
                refine at_then ?_
                refine run_seq ?_
                obtain ⟨t3591, h3592, H⟩ := bind_some H
                refine run_region rfl ?_
                refine ops_ex rfl (guard_none rfl) rfl rfl (ex_move rfl rfl) ?_
                refine ops_ex rfl (guard_none rfl) rfl rfl (ex_move rfl rfl) ?_
                refine ops_ex rfl (guard_none rfl) rfl rfl (ex_move rfl rfl) ?_
                refine ops_ex rfl (guard_none rfl) rfl rfl (ex_move rfl rfl) ?_
                refine ops_ex rfl (guard_none rfl) rfl rfl (ex_move rfl rfl) ?_
                refine ops_does rfl (guard_none rfl) rfl rfl (does_callk rfl callok97 rfl (spec_l4Put.calls (x0 := x0) (x1 := x1) (x2 := x2) (x3 := x3) (x4 := x4) (HM.rd hp0) (HM.rd hp2) h3592)) ?_
                rintro u3593 w3595 ⟨_, rfl, hn⟩
                replace HM : Mem w [] w3595 [own kCoin 77 u3593 t3591, box b3486 31 [.int .i64 0, .slice none 0 0]] := HM.call hn
                refine ops_ex rfl (guard_none rfl) rfl rfl (ex_build1 (fun u3593 => [(1, u3593)]) (fun u3593 => #[.int .i64 0, u3593]) rfl rfl (fun _ _ _ => by kernel_rfl) (HM.own_rd 0 rfl).isSl) ?_
                replace HM := HM.front 1 rfl rfl
                refine ops_doesS rfl (guard_none rfl) rfl (does_store (vs := [.int .i64 0, u3593]) (cs' := [.int .i64 0, u3593]) rfl rfl rfl rfl tsz31 (Ones.int (Ones.rd (HM.own_rd 1 rfl) Ones.nil)) rfl rfl HM) ?_
                rintro w3596 HM
                refine ops_nil ?_
                refine at_then ?_
                refine run_ret ?_
                have hcb0 := HM.box_at 0 rfl
                replace HM := (HM.front 0 rfl rfl).drop
                have hR := Option.some.inj H
                subst hR
                exact at_retN rfl rfl Tryz.underlying31 rfl tsz31 rfl hcb0 ⟨_, rfl, _, rfl, HM⟩

def spec_SpendTx.f (k : Nat) (x0 : List Coin) (x1 : Tx) (x2 : Int) (x3 : Int) : Option CoinsResult := ((spec_SpentBy.f k x0 x1).bind fun t3609 => (bif (t3609.fCode != 0) then some t3609 else ((spec_l4Of.f k x0 x2).bind fun t3625 => (bif t3625 then some (⟨7, ([] : List Coin)⟩ : CoinsResult) else ((spec_l4Take.f k x0 x1.fIns).bind fun t3631 => ((spec_PutCoins.f k t3631.1 x2 x1.fOuts x3 false).bind fun t3636 => some t3636))))))
theorem spec_SpendTx.calls {k : Nat} {x0 : List Coin} {x1 : Tx} {x2 : Int} {x3 : Int} {p0 : Value} {p1_0 : Value} {p1_1 : Value} {w : World} (hp0 : RdS kCoin w p0 x0) (hp1_0 : RdS kRef w p1_0 x1.fIns) (hp1_1 : RdS kOut w p1_1 x1.fOuts) {r : CoinsResult} (H : spec_SpendTx.f k x0 x1 x2 x3 = some r) :
    Calls Tryz.prog 22 ([p0, .agg #[(.int .i64 x1.fKind), (.int .i64 x1.fMember), p1_0, p1_1], .int .i64 x2, .int .i64 x3] : List Value).toArray w (fun e w_ => ∃ v, e = .returned v ∧ ∃ u0 : Value, v = (.agg #[.int .i64 r.fCode, u0]) ∧ Mem w [] w_ [own kCoin 77 u0 r.fCoins]) := by
  have HM := Mem.start w
  refine calls_run (N := 36) Tryz.func22 rfl rfl rfl rfl ?_
  unfold spec_SpendTx.f at H
  refine run_seq ?_
  refine run_region rfl ?_
  refine ops_does rfl (guard_none rfl) rfl rfl (does_box (cs := [.int .i64 x1.fKind, .int .i64 x1.fMember, p1_0, p1_1]) rfl rfl rfl HM) ?_
  rintro _ w3607 ⟨b3601, rfl, HM⟩
  refine ops_does rfl (guard_none rfl) rfl rfl (does_alloc (cs := [.int .i64 0, .slice none 0 0]) rfl tz31 rfl HM) ?_
  rintro _ w3608 ⟨b3604, rfl, HM⟩
  refine ops_nil ?_
  refine at_then ?_
  refine run_seq ?_
  obtain ⟨t3609, h3610, H⟩ := bind_some H
  refine run_region rfl ?_
  refine ops_ex rfl (guard_none rfl) rfl rfl (ex_move rfl rfl) ?_
  refine ops_ex rfl (guard_none rfl) rfl rfl (ex_loadN (cs := [(.int .i64 x1.fKind), (.int .i64 x1.fMember), p1_0, p1_1]) rfl rfl Tryz.underlying37 rfl tsz37 rfl ((HM.box_at 1 rfl).sub 0 4 rfl)) ?_
  refine ops_does rfl (guard_none rfl) rfl rfl (does_callk rfl callok9 rfl (spec_SpentBy.calls (x0 := x0) (x1 := x1) (HM.rd hp0) (HM.rd hp1_0) (HM.rd hp1_1) h3610)) ?_
  rintro _ w3616 ⟨u3611, rfl, hn⟩
  replace HM : Mem w [] w3616 [own kCoin 77 u3611 t3609.fCoins, box b3604 31 [.int .i64 0, .slice none 0 0], box b3601 37 [.int .i64 x1.fKind, .int .i64 x1.fMember, p1_0, p1_1]] := HM.call hn
  refine ops_does rfl (guard_none rfl) rfl rfl (does_alloc (cs := [.int .i64 0, .slice none 0 0]) rfl tz31 rfl HM) ?_
  rintro _ w3617 ⟨b3613, rfl, HM⟩
  refine ops_doesS rfl (guard_none rfl) rfl (does_store (vs := [.int .i64 t3609.fCode, u3611]) (cs' := [.int .i64 t3609.fCode, u3611]) rfl rfl rfl rfl tsz31 (Ones.int (Ones.rd (HM.own_rd 1 rfl) Ones.nil)) rfl rfl HM) ?_
  rintro w3618 HM
  refine ops_nil ?_
  refine at_then ?_
  refine run_seq ?_
  refine run_seq ?_
  refine run_region rfl ?_
  refine ops_ex rfl (guard_none rfl) rfl rfl (ex_fieldAddr (off' := 0) rfl rfl Tryz.underlying31 rfl tsz2 rfl) ?_
  refine ops_ex rfl (guard_none rfl) rfl rfl (ex_load1 rfl rfl Tryz.underlying2 rfl ((HM.box_at 0 rfl) 0 _ rfl)) ?_
  refine ops_ex rfl (guard_none rfl) rfl rfl (ex_neq rfl rfl rfl) ?_
  refine ops_nil ?_
  refine at_then ?_
  refine run_cond (b := (t3609.fCode != 0)) rfl (fun hb3620 => ?_) (fun hb3620 => ?_)
  · replace H := cond_t hb3620 H
    refine run_seq ?_
    refine run_region rfl ?_
    refine ops_ex rfl (guard_none rfl) rfl rfl (ex_loadN (cs := [(.int .i64 t3609.fCode), u3611]) rfl rfl Tryz.underlying31 rfl tsz31 rfl ((HM.box_at 0 rfl).sub 0 2 rfl)) ?_
    replace HM := HM.front 2 rfl rfl
    refine ops_doesS rfl (guard_none rfl) rfl (does_store (vs := [.int .i64 t3609.fCode, u3611]) (cs' := [.int .i64 t3609.fCode, u3611]) rfl rfl rfl rfl tsz31 (Ones.int (Ones.rd (HM.own_rd 2 rfl) Ones.nil)) rfl rfl HM) ?_
    rintro w3621 HM
    refine ops_nil ?_
    refine at_then ?_
    refine run_ret ?_
    refine at_then_ret ?_
    replace HM := (HM.front 1 rfl rfl).drop
    replace HM := (HM.front 2 rfl rfl).drop
    have hcb0 := HM.box_at 0 rfl
    replace HM := (HM.front 0 rfl rfl).drop
    have hR := Option.some.inj H
    subst hR
    exact at_retN rfl rfl Tryz.underlying31 rfl tsz31 rfl hcb0 ⟨_, rfl, _, rfl, HM⟩
  · replace H := cond_f hb3620 H
    refine run_skip ?_
    refine at_then ?_
    refine run_seq ?_
    refine run_seq ?_
    obtain ⟨t3625, h3626, H⟩ := bind_some H
    refine run_region rfl ?_
    refine ops_ex rfl (guard_none rfl) rfl rfl (ex_move rfl rfl) ?_
    refine ops_ex rfl (guard_none rfl) rfl rfl (ex_move rfl rfl) ?_
    refine ops_does rfl (guard_none rfl) rfl rfl (does_callk rfl callok52 rfl (spec_l4Of.calls (x0 := x0) (x1 := x2) (HM.rd hp0) h3626)) ?_
    rintro _ w3627 ⟨rfl, hn⟩
    replace HM : Mem w [] w3627 [box b3613 31 [.int .i64 t3609.fCode, u3611], own kCoin 77 u3611 t3609.fCoins, box b3604 31 [.int .i64 0, .slice none 0 0], box b3601 37 [.int .i64 x1.fKind, .int .i64 x1.fMember, p1_0, p1_1]] := HM.call hn
    refine ops_nil ?_
    refine at_then ?_
    refine run_cond (b := t3625) rfl (fun hb3628 => ?_) (fun hb3628 => ?_)
    · replace H := cond_t hb3628 H
      refine run_seq ?_
      refine run_region rfl ?_
      refine ops_ex rfl (guard_none rfl) rfl rfl (ex_build (cells := #[(.int .i64 7), (.slice none 0 0)]) rfl rfl (by kernel_rfl)) ?_
      replace HM := HM.front 2 rfl rfl
      refine ops_doesS rfl (guard_none rfl) rfl (does_store (vs := [.int .i64 7, .slice none 0 0]) (cs' := [.int .i64 7, .slice none 0 0]) rfl rfl rfl rfl tsz31 (Ones.int (Ones.sl Ones.nil)) rfl rfl HM) ?_
      rintro w3629 HM
      refine ops_nil ?_
      refine at_then ?_
      refine run_ret ?_
      refine at_then_ret ?_
      replace HM := HM.empty kCoin 77 none
      replace HM := (HM.front 2 rfl rfl).drop
      replace HM := (HM.front 2 rfl rfl).drop
      replace HM := (HM.front 2 rfl rfl).drop
      replace HM := HM.front 1 rfl rfl
      have hcb0 := HM.box_at 0 rfl
      replace HM := (HM.front 0 rfl rfl).drop
      have hR := Option.some.inj H
      subst hR
      exact at_retN rfl rfl Tryz.underlying31 rfl tsz31 rfl hcb0 ⟨_, rfl, _, rfl, HM⟩
    · replace H := cond_f hb3628 H
      refine run_skip ?_
      refine at_then ?_
      refine run_seq ?_
      obtain ⟨t3631, h3632, H⟩ := bind_some H
      refine run_region rfl ?_
      refine ops_ex rfl (guard_none rfl) rfl rfl (ex_move rfl rfl) ?_
      refine ops_ex rfl (guard_none rfl) rfl rfl (ex_fieldAddr (off' := 2) rfl rfl Tryz.underlying37 rfl tsz34 rfl) ?_
      refine ops_ex rfl (guard_none rfl) rfl rfl (ex_load1 rfl rfl Tryz.underlying34 rfl ((HM.box_at 3 rfl) 2 _ rfl)) ?_
      refine ops_does rfl (guard_none rfl) rfl rfl (does_callk rfl callok53 rfl (spec_l4Take.calls (x0 := x0) (x1 := x1.fIns) (HM.rd hp0) (HM.rd hp1_0) h3632)) ?_
      rintro _ w3635 ⟨u3633, rfl, hn⟩
      replace HM : Mem w [] w3635 [own kCoin 77 u3633 t3631.1, box b3613 31 [.int .i64 t3609.fCode, u3611], own kCoin 77 u3611 t3609.fCoins, box b3604 31 [.int .i64 0, .slice none 0 0], box b3601 37 [.int .i64 x1.fKind, .int .i64 x1.fMember, p1_0, p1_1]] := HM.call hn
      refine ops_ex rfl (guard_none rfl) rfl rfl (ex_move rfl rfl) ?_
      refine ops_ex rfl (guard_none rfl) rfl rfl (ex_extract rfl rfl rfl) ?_
      refine ops_ex rfl (guard_none rfl) rfl rfl (ex_extract rfl rfl rfl) ?_
      refine ops_ex rfl (guard_none rfl) rfl rfl (ex_assign rfl rfl) ?_
      refine ops_ex rfl (guard_none rfl) rfl rfl (ex_assign rfl rfl) ?_
      refine ops_nil ?_
      refine at_then ?_
      refine run_seq ?_
      obtain ⟨t3636, h3637, H⟩ := bind_some H
      refine run_region rfl ?_
      refine ops_ex rfl (guard_none rfl) rfl rfl (ex_move rfl rfl) ?_
      refine ops_ex rfl (guard_none rfl) rfl rfl (ex_move rfl rfl) ?_
      refine ops_ex rfl (guard_none rfl) rfl rfl (ex_fieldAddr (off' := 3) rfl rfl Tryz.underlying37 rfl tsz35 rfl) ?_
      refine ops_ex rfl (guard_none rfl) rfl rfl (ex_load1 rfl rfl Tryz.underlying35 rfl ((HM.box_at 4 rfl) 3 _ rfl)) ?_
      refine ops_ex rfl (guard_none rfl) rfl rfl (ex_move rfl rfl) ?_
      refine ops_does rfl (guard_none rfl) rfl rfl (does_callk rfl callok54 rfl (spec_PutCoins.calls (x0 := t3631.1) (x1 := x2) (x2 := x1.fOuts) (x3 := x3) (x4 := false) (HM.own_rd 0 rfl) (HM.rd hp1_1) h3637)) ?_
      rintro _ w3640 ⟨u3638, rfl, hn⟩
      replace HM : Mem w [] w3640 [own kCoin 77 u3638 t3636.fCoins, own kCoin 77 u3633 t3631.1, box b3613 31 [.int .i64 t3609.fCode, u3611], own kCoin 77 u3611 t3609.fCoins, box b3604 31 [.int .i64 0, .slice none 0 0], box b3601 37 [.int .i64 x1.fKind, .int .i64 x1.fMember, p1_0, p1_1]] := HM.call hn
      replace HM := HM.front 4 rfl rfl
      refine ops_doesS rfl (guard_none rfl) rfl (does_store (vs := [.int .i64 t3636.fCode, u3638]) (cs' := [.int .i64 t3636.fCode, u3638]) rfl rfl rfl rfl tsz31 (Ones.int (Ones.rd (HM.own_rd 1 rfl) Ones.nil)) rfl rfl HM) ?_
      rintro w3641 HM
      refine ops_nil ?_
      refine at_then ?_
      refine run_ret ?_
      replace HM := (HM.front 2 rfl rfl).drop
      replace HM := (HM.front 2 rfl rfl).drop
      replace HM := (HM.front 2 rfl rfl).drop
      replace HM := (HM.front 2 rfl rfl).drop
      have hcb0 := HM.box_at 0 rfl
      replace HM := (HM.front 0 rfl rfl).drop
      have hR := Option.some.inj H
      subst hR
      exact at_retN rfl rfl Tryz.underlying31 rfl tsz31 rfl hcb0 ⟨_, rfl, _, rfl, HM⟩
end Go.Proofs.YtcamddjlhchkfaaGreat.Zk
