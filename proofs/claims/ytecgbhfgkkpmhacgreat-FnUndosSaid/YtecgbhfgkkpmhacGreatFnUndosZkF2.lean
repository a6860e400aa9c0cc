/- What functions of the program compute, each as a plain function, and that they do. Conditions: as each theorem states them. -/
import Derived.Test.YtecgbhfgkkpmhacGreatFnUndosZkF1
namespace Go.Proofs.YtecgbhfgkkpmhacGreat.Zk
open Go Go.RowKit Go.IntWalk Go.Proofs
set_option linter.unusedVariables false
set_option linter.unusedSimpArgs false
set_option maxRecDepth 100000
set_option maxHeartbeats 4000000
def spec_l4Of.l0 (x0 : List Coin) (x1 : Int) : Nat → Int → Option (Bool ⊕ Unit)
 | 0, _ => none
 | k + 1, a10 => (bif (decide (a10 < (x0.length : Int))) then (chk (idxOk a10 x0.length) (bif (((gt x0 a10).fRef.fTx) == x1) then some (.inl true) else spec_l4Of.l0 x0 x1 k (wrap64 (a10 + 1)))) else some (.inr ()))
def spec_l4Of.f (k : Nat) (x0 : List Coin) (x1 : Int) : Option Bool := ((spec_l4Of.l0 x0 x1 k 0).bind fun o11 => thn o11 (fun r => some r) (fun _ => some false))
theorem spec_l4Of.calls {k : Nat} {x0 : List Coin} {x1 : Int} {p0 : Value} {w : World} (hp0 : RdS kCoin w p0 x0) {r : Bool} (H : spec_l4Of.f k x0 x1 = some r) :
  Calls Tryz.prog 20 ([p0, nI x1] : List Value).toArray w (fun e w_ => ∃ v, e = .returned v ∧ v = (.bool r) ∧ Mem w [] w_ []) := by
 have HM := Mem.start w
 refine calls_run (N := 20) Tryz.func20 rfl rfl rfl rfl ?_
 unfold spec_l4Of.f at H
 refine run_seq (run_region rfl (oM rfl (ops_nil (at_then ?_))))
 obtain ⟨o11, ho12, H⟩ := bind_some H
 refine run_mid (fun ρ_ w_ => Sum.inr () = o11 ∧ ρ_ = [] ∧ Mem w [] w_ []) ?_ ?_
 ·refine run_seq (run_region rfl (oM rfl (ops_nil (at_then (run_block ?_)))))
  refine run_loop (fun k_ ρ_ w_ => ∃ a10 : Int, spec_l4Of.l0 x0 x1 k_ a10 = some o11 ∧ ρ_ = [(0, p0), (1, nI x1), (5, nI a10)] ∧ Mem w [] w_ []) k ⟨_, ho12, rfl, HM⟩ (Sub.of rfl) ?_
  clear HM ho12
  rintro k13 _ w14 ⟨a10, ho12, rfl, HM⟩
  obtain _ | k13 := k13
  ·exact nomatch ((spec_l4Of.l0.eq_1 x0 x1 a10).symm.trans ho12)
  replace ho12 := (spec_l4Of.l0.eq_2 ..).symm.trans ho12
  refine run_seq (run_seq (run_region rfl (oM rfl (oM rfl (oy rfl (ex_len (d := kCoin) (xs := x0) rfl rfl U24 hp0) (oy rfl (ex_lss rfl rfl rfl) (ops_nil (at_then (run_cond (b := (decide (a10 < (x0.length : Int)))) rfl (fun hb15 => ?_) (fun hb15 => ?_))))))))))
  ·replace ho12 := cond_t hb15 ho12
   refine run_skip (at_then (run_seq (run_block (run_seq ?_))))
   obtain ⟨e16, ho12⟩ := chk_some ho12
   refine run_region rfl (oM rfl (oM rfl ?_))
   obtain ⟨kv17, hc18, hk19⟩ := rd_with1 hp0 e16
   refine oy rfl (ex_indexAddr (d := kCoin) rfl rfl rfl U24 tsz70 hp0 (idx_lo e16) (idx_hi e16)) (oy rfl (ex_fieldAddr (off' := so p0 + (a10).toNat * 8) rfl rfl U70 rfl tsz38 rfl) (oy rfl (ex_fieldAddr (off' := so p0 + (a10).toNat * 8) rfl rfl U38 rfl tsz2 rfl) (oy rfl (ex_load1 rfl rfl U2 rfl ((HM.at_ hc18) 0 _ rfl)) (oM rfl (oy rfl (ex_eql rfl rfl rfl) (ops_nil (at_then (run_cond (b := (((gt x0 a10).fRef.fTx) == x1)) rfl (fun hb20 => ?_) (fun hb20 => ?_)))))))))
   ·replace ho12 := cond_t hb20 ho12
    refine run_seq (run_region rfl (oM rfl (ops_nil (at_then (run_ret (at_block_ret (at_then_ret (at_then_ret (at_block_ret (at_then_ret ?_))))))))))
    cases ho12
    have hT := thn_inl H
    cases hT
    exact at_ret1 rfl rfl ⟨_, rfl, rfl, HM⟩
   ·replace ho12 := cond_f hb20 ho12
    exact run_skip (at_block (at_then (run_region rfl (oM rfl (oy rfl (ex_add rfl rfl rfl) (oM rfl (ops_nil (at_again k13 (Nat.lt_succ_self _) ⟨_, ho12, rfl, HM⟩ (Sub.of rfl)))))))))
  ·replace ho12 := cond_f hb15 ho12
   exact run_exit (at_then_exit (at_then_exit (at_block_exit (at_mid ⟨(sj ho12), rfl, HM⟩ Sub.nil))))
 ·rintro _ w21 ⟨rfl, rfl, HM⟩
  replace H := (thn_inr H)
  refine run_seq (run_region rfl (oM rfl (ops_nil (at_then (run_ret ?_)))))
  cases H
  exact at_ret1 rfl rfl ⟨_, rfl, rfl, HM⟩

def spec_l2Copy.f (k : Nat) (x0 : Rule) : Option Rule := (chk (leB ((([] : List Int).length + x0.fKeys.length) * 8) 140737488355328) (some (⟨([] : List Int) ++ x0.fKeys, x0.fNeed, x0.fAfter⟩ : Rule)))
theorem spec_l2Copy.calls {k : Nat} {x0 : Rule} {p0_0 : Value} {w : World} (hp0_0 : RdS kInt w p0_0 x0.fKeys) {r : Rule} (H : spec_l2Copy.f k x0 = some r) :
  Calls Tryz.prog 89 ([.agg #[p0_0, (nI x0.fNeed), (nI x0.fAfter)]] : List Value).toArray w (fun e w_ => ∃ v, e = .returned v ∧ ∃ u0 : Value, v = (.agg #[u0, nI r.fNeed, nI r.fAfter]) ∧ Mem w [] w_ [own kInt 2 u0 r.fKeys]) := by
 have HM := Mem.start w
 refine calls_run (N := 9) Tryz.func89 rfl rfl rfl rfl ?_
 unfold spec_l2Copy.f at H
 refine run_seq (run_region rfl (oz rfl (does_box (cs := [p0_0, nI x0.fNeed, nI x0.fAfter]) rfl rfl rfl HM) ?_))
 rintro _ w10 ⟨b11, rfl, HM⟩
 refine oz rfl (does_alloc (cs := [.slice none 0 0, nI 0, nI 0]) rfl tz66 rfl HM) ?_
 rintro _ w12 ⟨b13, rfl, HM⟩
 refine ops_nil (at_then (run_seq ?_))
 obtain ⟨e14, H⟩ := chk_some H
 refine run_region rfl (oz rfl (does_lit (e := 2) (cs := []) (xs := ([] : List Int)) kInt rfl rfl (fun _ => by kernel_rfl) rfl rfl (fun _ _ h => by have h' : _ = [] := h; subst h'; exact .nil) HM.emp) ?_)
 rintro v15 w16 HM
 refine oy rfl (ex_fieldAddr (off' := 0) rfl rfl U66 rfl tsz58 rfl) (oy rfl (ex_load1 rfl rfl U58 rfl ((HM.box_at 2 rfl) 0 _ rfl)) (oz rfl (does_appendR kInt flat_plain rfl rfl rfl U58 tsz2 rfl tby2 tz2 rfl rfl (leB_le e14) (HM.rd hp0_0) HM) ?_))
 rintro v17 w18 HM
 refine oy rfl (ex_fieldAddr (off' := 0) rfl rfl U66 rfl tsz58 rfl) ?_
 replace HM := HM.fr1 2 rfl
 refine odS rfl rfl rfl (does_store (vs := [v17]) (cs' := [v17, nI x0.fNeed, nI x0.fAfter]) rfl rfl rfl (rd_cells (HM.own_rd 1 rfl)) tsz58 (Ones.rd (HM.own_rd 1 rfl) Ones.nil) rfl rfl HM) ?_
 rintro w19 HM
 refine ops_nil (at_then (run_seq (run_region rfl (oy rfl (ldN rfl rfl U66 rfl tsz66 ((HM.box_at 0 rfl).subL 0 3 rfl) rfl) ?_))))
 replace HM := HM.fr1 2 rfl
 refine odS rfl rfl rfl (does_store (vs := [v17, nI x0.fNeed, nI x0.fAfter]) (cs' := [v17, nI x0.fNeed, nI x0.fAfter]) rfl rfl rfl rfl tsz66 (Ones.rd (HM.own_rd 2 rfl) (Ones.int (Ones.int Ones.nil))) rfl rfl HM) ?_
 rintro w20 HM
 refine ops_nil (at_then (run_ret ?_))
 replace HM := HM.frd 1 rfl
 have hcb0 := HM.box_at 0 rfl
 replace HM := HM.frd 0 rfl
 cases H
 exact at_retN rfl rfl U66 rfl tsz66 rfl hcb0 ⟨_, rfl, _, rfl, HM⟩

def spec_l4Copy.l0 (x0 : List Coin) : Nat → (List Coin) → Int → Option ((List Coin))
 | 0, _, _ => none
 | k + 1, a10, a11 => (bif (decide (a11 < (x0.length : Int))) then (chk (idxOk a11 x0.length) ((spec_l2Copy.f k ((gt x0 a11).fOut.fRule)).bind fun t12 => (chk (leB ((a10.length + ([(⟨(gt x0 a11).fRef, (⟨(gt x0 a11).fOut.fValue, t12⟩ : Out), (gt x0 a11).fHeight, (gt x0 a11).fMined⟩ : Coin)] : List Coin).length) * 80) 140737488355328) (spec_l4Copy.l0 x0 k (a10 ++ ([(⟨(gt x0 a11).fRef, (⟨(gt x0 a11).fOut.fValue, t12⟩ : Out), (gt x0 a11).fHeight, (gt x0 a11).fMined⟩ : Coin)] : List Coin)) (wrap64 (a11 + 1)))))) else some a10)
def spec_l4Copy.f (k : Nat) (x0 : List Coin) : Option ((List Coin)) := ((spec_l4Copy.l0 x0 k ([] : List Coin) 0).bind (fun a13 => some a13))
theorem spec_l4Copy.calls {k : Nat} {x0 : List Coin} {p0 : Value} {w : World} (hp0 : RdS kCoin w p0 x0) {r : (List Coin)} (H : spec_l4Copy.f k x0 = some r) :
  Calls Tryz.prog 48 ([p0] : List Value).toArray w (fun e w_ => ∃ v, e = .returned v ∧ ∃ u0 : Value, v = u0 ∧ Mem w [] w_ [own kCoin 70 u0 r]) := by
 have HM := Mem.start w
 refine calls_run (N := 28) Tryz.func48 rfl rfl rfl rfl ?_
 unfold spec_l4Copy.f at H
 refine run_seq (run_region rfl (oM rfl (ops_nil (at_then (run_seq (run_region rfl (oz rfl (does_lit (e := 70) (cs := []) (xs := ([] : List Coin)) kCoin rfl rfl (fun _ => by kernel_rfl) rfl rfl (fun _ _ h => by have h' : _ = [] := h; subst h'; exact .nil) HM.emp) ?_)))))))
 rintro v14 w15 HM
 refine oM rfl (ops_nil (at_then ?_))
 obtain ⟨o16, ho17, H⟩ := bind_some H
 refine run_mid (fun ρ_ w_ => ∃ v18 : Value, ∃ a13 : List Coin, a13 = o16 ∧ ρ_ = [(3, v18)] ∧ Mem w [] w_ [own kCoin 70 v18 a13]) ?_ ?_
 ·clear H
  refine run_seq (run_region rfl (oM rfl (ops_nil (at_then (run_block ?_)))))
  refine run_loop (fun k_ ρ_ w_ => ∃ v19 : Value, ∃ a10 : List Coin, ∃ a11 : Int, spec_l4Copy.l0 x0 k_ a10 a11 = some o16 ∧ ρ_ = [(0, p0), (3, v19), (4, nI a11)] ∧ Mem w [] w_ [own kCoin 70 v19 a10]) k ⟨_, _, _, ho17, rfl, HM⟩ (Sub.of rfl) ?_
  clear HM ho17
  rintro k20 _ w21 ⟨v19, a10, a11, ho17, rfl, HM⟩
  obtain _ | k20 := k20
  ·exact nomatch ((spec_l4Copy.l0.eq_1 x0 a10 a11).symm.trans ho17)
  replace ho17 := (spec_l4Copy.l0.eq_2 ..).symm.trans ho17
  refine run_seq (run_seq (run_region rfl (oM rfl (oM rfl (oy rfl (ex_len (d := kCoin) (xs := x0) rfl rfl U24 hp0) (oy rfl (ex_lss rfl rfl rfl) (ops_nil (at_then (run_cond (b := (decide (a11 < (x0.length : Int)))) rfl (fun hb22 => ?_) (fun hb22 => ?_))))))))))
  ·replace ho17 := cond_t hb22 ho17
   refine run_skip (at_then (run_seq (run_block (run_seq ?_))))
   obtain ⟨e23, ho17⟩ := chk_some ho17
   refine run_region rfl (oM rfl (oM rfl ?_))
   obtain ⟨kv24, hc25, hk26⟩ := rd_with1 hp0 e23
   refine oy rfl (ex_indexAddr (d := kCoin) rfl rfl rfl U24 tsz70 hp0 (idx_lo e23) (idx_hi e23)) (oy rfl (ldN rfl rfl U70 rfl tsz70 ((HM.at_ hc25).subL 0 8 rfl) rfl) (oz rfl (does_alloc (cs := [nI 0, nI 0, nI 0, .slice none 0 0, nI 0, nI 0, nI 0, .bool false]) rfl tz70 rfl HM) ?_))
   rintro _ w27 ⟨b28, rfl, HM⟩
   refine odS rfl rfl rfl (does_store (vs := [nI ((gt x0 a11).fRef.fTx), nI ((gt x0 a11).fRef.fAt), nI ((gt x0 a11).fOut.fValue), kv24, nI ((gt x0 a11).fOut.fRule.fNeed), nI ((gt x0 a11).fOut.fRule.fAfter), nI ((gt x0 a11).fHeight), .bool ((gt x0 a11).fMined)]) (cs' := [nI ((gt x0 a11).fRef.fTx), nI ((gt x0 a11).fRef.fAt), nI ((gt x0 a11).fOut.fValue), kv24, nI ((gt x0 a11).fOut.fRule.fNeed), nI ((gt x0 a11).fOut.fRule.fAfter), nI ((gt x0 a11).fHeight), .bool ((gt x0 a11).fMined)]) rfl rfl rfl rfl tsz70 (Ones.int (Ones.int (Ones.int (Ones.rd hk26 (Ones.int (Ones.int (Ones.int (Ones.bool Ones.nil)))))))) rfl rfl HM) ?_
   rintro w29 HM
   refine ops_nil (at_then (run_seq ?_))
   obtain ⟨t12, h30, ho17⟩ := bind_some ho17
   refine run_region rfl (oy rfl (ex_fieldAddr (off' := 2) rfl rfl U70 rfl tsz68 rfl) (oy rfl (ex_fieldAddr (off' := 3) rfl rfl U68 rfl tsz66 rfl) (oy rfl (ldN rfl rfl U66 rfl tsz66 ((HM.box_at 0 rfl).subL 3 3 rfl) rfl) (oz rfl (does_callk rfl callok89 rfl (spec_l2Copy.calls (x0 := (gt x0 a11).fOut.fRule) (HM.rd hk26) h30)) ?_))))
   rintro _ w31 ⟨u32, rfl, hn⟩
   replace HM := HM.callN hn rfl
   refine oy rfl (ex_fieldAddr (off' := 2) rfl rfl U70 rfl tsz68 rfl) (oy rfl (ex_fieldAddr (off' := 3) rfl rfl U68 rfl tsz66 rfl) ?_)
   replace HM := HM.fr1 1 rfl
   refine odS rfl rfl rfl (does_store (vs := [u32, nI t12.fNeed, nI t12.fAfter]) (cs' := [nI ((gt x0 a11).fRef.fTx), nI ((gt x0 a11).fRef.fAt), nI ((gt x0 a11).fOut.fValue), u32, nI t12.fNeed, nI t12.fAfter, nI ((gt x0 a11).fHeight), .bool ((gt x0 a11).fMined)]) rfl rfl rfl rfl tsz66 (Ones.rd (HM.own_rd 1 rfl) (Ones.int (Ones.int Ones.nil))) rfl rfl HM) ?_
   rintro w33 HM
   refine ops_nil (at_then ?_)
   obtain ⟨e34, ho17⟩ := chk_some ho17
   refine run_region rfl (oM rfl (oy rfl (ldN rfl rfl U70 rfl tsz70 ((HM.box_at 0 rfl).subL 0 8 rfl) rfl) ?_))
   replace HM := HM.fr1 1 rfl
   refine oz rfl (does_lit (e := 70) (cs := [(nI ((gt x0 a11).fRef.fTx)), (nI ((gt x0 a11).fRef.fAt)), (nI ((gt x0 a11).fOut.fValue)), u32, (nI t12.fNeed), (nI t12.fAfter), (nI ((gt x0 a11).fHeight)), (.bool ((gt x0 a11).fMined))]) (xs := ([(⟨(gt x0 a11).fRef, (⟨(gt x0 a11).fOut.fValue, t12⟩ : Out), (gt x0 a11).fHeight, (gt x0 a11).fMined⟩ : Coin)] : List Coin)) kCoin rfl rfl (fun _ => by kernel_rfl) rfl rfl (fun _ _ h => by have := Elems.cons (d := kCoin) (x := (⟨(gt x0 a11).fRef, (⟨(gt x0 a11).fOut.fValue, t12⟩ : Out), (gt x0 a11).fHeight, (gt x0 a11).fMined⟩ : Coin)) ⟨_, rfl, h⟩ .nil; rw [List.append_nil, List.append_nil] at this; exact this) HM) ?_
   rintro v35 w36 HM
   replace HM := HM.fr1 2 rfl
   refine oz rfl (does_append kCoin rfl rfl rfl U24 tsz70 rfl tby70 tz70 rfl rfl (leB_le e34) HM) ?_
   rintro v37 w38 HM
   refine oM rfl (ops_nil (at_block (at_then (run_region rfl (oM rfl (oy rfl (ex_add rfl rfl rfl) (oM rfl (ops_nil ?_))))))))
   replace HM := HM.frd 1 rfl
   exact at_again k20 (Nat.lt_succ_self _) ⟨_, _, _, ho17, rfl, HM⟩ (Sub.of rfl)
  ·replace ho17 := cond_f hb22 ho17
   exact run_exit (at_then_exit (at_then_exit (at_block_exit (at_mid ⟨_, _, (sj ho17), rfl, HM⟩ (Sub.of rfl)))))
 ·rintro _ w39 ⟨v18, a13, rfl, rfl, HM⟩
  refine run_seq (run_region rfl (oM rfl (oM rfl (ops_nil (at_then (run_ret ?_))))))
  cases H
  exact at_ret1 rfl rfl ⟨_, rfl, _, rfl, HM⟩

def spec_l4Add.l0 (x0 : List Coin) (x1 : Coin) : Nat → Int → Option Int
 | 0, _ => none
 | k + 1, a10 => (chk (!(decide (a10 < (x0.length : Int))) || (idxOk a10 x0.length)) ((bif (decide (a10 < (x0.length : Int))) then spec_l4Ahead.f k ((gt x0 a10).fRef) x1.fRef else some default).bind fun t11 => (bif ((decide (a10 < (x0.length : Int))) && t11) then spec_l4Add.l0 x0 x1 k (wrap64 (a10 + 1)) else some a10)))
def spec_l4Add.f (k : Nat) (x0 : List Coin) (x1 : Coin) : Option ((List Coin)) := ((spec_l4Add.l0 x0 x1 k 0).bind (fun a12 => (chk (cutOk a12 x0.length) (chk (leB ((a12).toNat * 80) 140737488355328) (chk (cutOk a12 x0.length) (chk (leB (((a12).toNat + ([x1] : List Coin).length) * 80) 140737488355328) (chk (leB (((a12).toNat + ([x1] : List Coin).length + (x0.length - (a12).toNat)) * 80) 140737488355328) (chk (decide ((a12).toNat ≤ (a12).toNat)) (some (x0.take (a12).toNat ++ ([x1] : List Coin) ++ x0.drop (a12).toNat))))))))))
theorem spec_l4Add.calls {k : Nat} {x0 : List Coin} {x1 : Coin} {p0 : Value} {p1_0 : Value} {w wo : World} {X : List Nat} (hwo : Olds wo w X) (hX : Hold w [own kCoin 70 p0 x0, own kInt 2 p1_0 x1.fOut.fRule.fKeys] X) (hXn : X.Nodup) (hXl : ∀ b ∈ X, b < w.heap.size)  {r : (List Coin)} (H : spec_l4Add.f k x0 x1 = some r) :
  Calls Tryz.prog 91 ([p0, .agg #[(nI x1.fRef.fTx), (nI x1.fRef.fAt), (nI x1.fOut.fValue), p1_0, (nI x1.fOut.fRule.fNeed), (nI x1.fOut.fRule.fAfter), (nI x1.fHeight), (.bool x1.fMined)]] : List Value).toArray w (fun e w_ => ∃ v, e = .returned v ∧ ∃ u0 : Value, v = u0 ∧ Mem w X w_ [own kCoin 70 u0 r]) := by
 have HM := Mem.startX hX hXn hXl
 refine calls_run (N := 36) Tryz.func91 rfl rfl rfl rfl ?_
 unfold spec_l4Add.f at H
 refine run_seq (run_region rfl (oz rfl (does_box (cs := [nI x1.fRef.fTx, nI x1.fRef.fAt, nI x1.fOut.fValue, p1_0, nI x1.fOut.fRule.fNeed, nI x1.fOut.fRule.fAfter, nI x1.fHeight, .bool x1.fMined]) rfl rfl rfl HM) ?_))
 rintro _ w13 ⟨b14, rfl, HM⟩
 refine oM rfl (ops_nil (at_then (run_seq (run_region rfl (oM rfl (ops_nil (at_then ?_)))))))
 obtain ⟨o15, ho16, H⟩ := bind_some H
 refine run_mid (fun ρ_ w_ => ∃ a12 : Int, a12 = o15 ∧ ρ_ = [(0, p0), (3, pA b14 0), (5, nI a12)] ∧ Mem w X w_ [own kCoin 70 p0 x0, own kInt 2 p1_0 x1.fOut.fRule.fKeys, box b14 70 [nI x1.fRef.fTx, nI x1.fRef.fAt, nI x1.fOut.fValue, p1_0, nI x1.fOut.fRule.fNeed, nI x1.fOut.fRule.fAfter, nI x1.fHeight, .bool x1.fMined]]) ?_ ?_
 ·clear H
  refine run_block ?_
  replace HM := (HM.fr1 2 rfl).fr1 2 rfl
  refine run_loop (fun k_ ρ_ w_ => ∃ a10 : Int, spec_l4Add.l0 x0 x1 k_ a10 = some o15 ∧ ρ_ = [(0, p0), (3, pA b14 0), (5, nI a10)] ∧ Mem w X w_ [own kCoin 70 p0 x0, own kInt 2 p1_0 x1.fOut.fRule.fKeys, box b14 70 [nI x1.fRef.fTx, nI x1.fRef.fAt, nI x1.fOut.fValue, p1_0, nI x1.fOut.fRule.fNeed, nI x1.fOut.fRule.fAfter, nI x1.fHeight, .bool x1.fMined]]) k ⟨_, ho16, rfl, HM⟩ (Sub.of rfl) ?_
  clear HM ho16
  rintro k17 _ w18 ⟨a10, ho16, rfl, HM⟩
  obtain _ | k17 := k17
  ·exact nomatch ((spec_l4Add.l0.eq_1 x0 x1 a10).symm.trans ho16)
  replace ho16 := (spec_l4Add.l0.eq_2 ..).symm.trans ho16
  refine run_seq (run_seq ?_)
  obtain ⟨e19, ho16⟩ := chk_some ho16
  obtain ⟨t11, h20, ho16⟩ := bind_some ho16
  refine run_meet (fun ρ_ w_ => ρ_ = [(0, p0), (3, pA b14 0), (5, nI a10), (20, .bool ((decide (a10 < (x0.length : Int))) && t11))] ∧ Mem w X w_ [own kCoin 70 p0 x0, own kInt 2 p1_0 x1.fOut.fRule.fKeys, box b14 70 [nI x1.fRef.fTx, nI x1.fRef.fAt, nI x1.fOut.fValue, p1_0, nI x1.fOut.fRule.fNeed, nI x1.fOut.fRule.fAfter, nI x1.fHeight, .bool x1.fMined]]) ?_ ?_
  ·refine run_drawf (fun w_ => Mem w X w_ [own kCoin 70 p0 x0, own kInt 2 p1_0 x1.fOut.fRule.fKeys, box b14 70 [nI x1.fRef.fTx, nI x1.fRef.fAt, nI x1.fOut.fValue, p1_0, nI x1.fOut.fRule.fNeed, nI x1.fOut.fRule.fAfter, nI x1.fHeight, .bool x1.fMined]]) [(0, true), (1, true), (2, true), (3, true), (4, true), (5, true), (6, true), (7, true), (8, true), (9, true), (10, true), (11, true), (12, false), (13, true)] mixed rfl rfl (by kernel_rfl) ?_
   replace HM := HM.grow (fr_drew _)
   have hS := HM.sufN 0 rfl
   refine dp rfl rfl rfl rfl (ex_move rfl rfl) hS (dp rfl rfl rfl rfl (ex_move rfl rfl) hS (drwp_take rfl (guard_none rfl) rfl rfl (fun w_ hS_ => (ex_len (d := kCoin) (xs := x0) rfl rfl U24 (hS_.own_rd 0 rfl))) hS (dp rfl rfl rfl rfl (ex_lss rfl rfl rfl) hS (dp rfl rfl rfl rfl (ex_move rfl rfl) hS ?_))))
   refine bool_cases (decide (a10 < (x0.length : Int))) (fun hg21 => ?_) (fun hg21 => ?_)
   ·refine drwp_take rfl (guard_on rfl rfl rfl hg21) rfl rfl (fun w_ hS_ => (ex_move rfl rfl)) hS (drwp_take rfl (guard_on rfl rfl rfl hg21) rfl rfl (fun w_ hS_ => (ex_move rfl rfl)) hS (drwp_take rfl (guard_on rfl rfl rfl hg21) rfl rfl (fun w_ hS_ => (ex_indexAddr (d := kCoin) rfl rfl rfl U24 tsz70 (hS_.own_rd 0 rfl) (idx_lo (or_t e19 hg21)) (idx_hi (or_t e19 hg21)))) hS (drwp_take rfl (guard_on rfl rfl rfl hg21) rfl rfl (fun w_ hS_ => (ex_fieldAddr (off' := so p0 + (a10).toNat * 8) rfl rfl U70 rfl tsz38 rfl)) hS (drwp_take rfl (guard_on rfl rfl rfl hg21) rfl rfl (fun w_ hS_ => (let ⟨_, hc_, _⟩ := rd_with1 (hS_.own_rd 0 rfl) (or_t e19 hg21); ldN rfl rfl U38 rfl tsz38 (hc_.subL 0 2 rfl) rfl)) hS (drwp_take rfl (guard_on rfl rfl rfl hg21) rfl rfl (fun w_ hS_ => (ex_fieldAddr (off' := 0) rfl rfl U70 rfl tsz38 rfl)) hS (drwp_take rfl (guard_on rfl rfl rfl hg21) rfl rfl (fun w_ hS_ => (ldN rfl rfl U38 rfl tsz38 ((hS_.box_at 2 rfl).subL 0 2 rfl) rfl)) hS (drwp_one rfl (guard_on rfl rfl rfl hg21) rfl rfl (does_callk rfl callok85 rfl (spec_l4Ahead.calls (x0 := (gt x0 a10).fRef) (x1 := x1.fRef) (cond_t hg21 h20))) ?_)))))))
    rintro _ w22 ⟨rfl, hn⟩
    replace HM := HM.callN hn rfl
    have hS := HM.sufN 0 rfl
    exact ⟨hS, (drwp_take (v := .bool ((decide (a10 < (x0.length : Int))) && t11)) rfl (guard_none rfl) rfl rfl (fun w_ hS_ => (ex_pand_t rfl rfl hg21 rfl)) hS (drwp_done (at_meet _ ⟨rfl, HM⟩ (Sub.of rfl))))⟩
   ·refine drwp_off rfl (guard_off rfl rfl rfl hg21) rfl rfl hS (drwp_off rfl (guard_off rfl rfl rfl hg21) rfl rfl hS (drwp_off rfl (guard_off rfl rfl rfl hg21) rfl rfl hS (drwp_off rfl (guard_off rfl rfl rfl hg21) rfl rfl hS (drwp_off rfl (guard_off rfl rfl rfl hg21) rfl rfl hS (drwp_off rfl (guard_off rfl rfl rfl hg21) rfl rfl hS (drwp_off rfl (guard_off rfl rfl rfl hg21) rfl rfl hS (drwp_off1 rfl (guard_off rfl rfl rfl hg21) rfl rfl ⟨hS, ?_⟩)))))))
    have hg23 : ((decide (a10 < (x0.length : Int))) && t11) = false := by simp only [hg21, Bool.and_true, Bool.true_and, Bool.and_false, Bool.false_and, Bool.or_true, Bool.true_or, Bool.or_false, Bool.false_or, Bool.not_true, Bool.not_false, Bool.not_not]
    exact drwp_take (v := .bool ((decide (a10 < (x0.length : Int))) && t11)) rfl (guard_none rfl) rfl rfl (fun w_ hS_ => (ex_pand_f rfl rfl hg21)) hS (drwp_done (at_meet _ ⟨rfl, HM⟩ (Sub.of rfl)))
  ·rintro _ w24 ⟨rfl, HM⟩
   refine at_then (run_cond (b := ((decide (a10 < (x0.length : Int))) && t11)) rfl (fun hb25 => ?_) (fun hb25 => ?_))
   ·replace ho16 := cond_t hb25 ho16
    exact run_skip (at_then (run_block (run_region rfl (oM rfl (oy rfl (ex_add rfl rfl rfl) (oM rfl (ops_nil (at_block (at_again k17 (Nat.lt_succ_self _) ⟨_, ho16, rfl, HM⟩ (Sub.of rfl))))))))))
   ·replace ho16 := cond_f hb25 ho16
    exact run_exit (at_then_exit (at_then_exit (at_block_exit (at_mid ⟨_, (sj ho16), rfl, HM⟩ (Sub.of rfl)))))
 ·rintro _ w26 ⟨a12, rfl, rfl, HM⟩
  refine run_seq ?_
  obtain ⟨e27, H⟩ := chk_some H
  obtain ⟨e28, H⟩ := chk_some H
  refine run_region rfl (oz rfl (does_lit (e := 70) (cs := []) (xs := ([] : List Coin)) kCoin rfl rfl (fun _ => by kernel_rfl) rfl rfl (fun _ _ h => by have h' : _ = [] := h; subst h'; exact .nil) HM.emp) ?_)
  rintro v29 w30 HM
  refine oM rfl (oM rfl (oy rfl (ex_cutvH rfl rfl rfl U24 tsz70 (cut_lo e27) ((HM.own_rd 1 rfl).cap.le (cut_hi e27))) ?_))
  replace HM := (HM.fr1 1 rfl).fr1 1 rfl
  refine oz rfl (does_mv1 (k := (a12).toNat) kCoin rfl rfl rfl U24 tsz70 tby70 tz70 rfl rfl (cut_hi e27) (leB_le e28) HM) ?_
  rintro v31 w32 HM
  refine oM rfl (ops_nil (at_then (run_seq ?_)))
  obtain ⟨e33, H⟩ := chk_some H
  obtain ⟨e34, H⟩ := chk_some H
  obtain ⟨e35, H⟩ := chk_some H
  obtain ⟨e36, H⟩ := chk_some H
  replace HM := (HM.fr1 1 rfl).fr1 1 rfl
  refine run_drawf (fun w_ => Mem w X w_ [box b14 70 [nI x1.fRef.fTx, nI x1.fRef.fAt, nI x1.fOut.fValue, p1_0, nI x1.fOut.fRule.fNeed, nI x1.fOut.fRule.fAfter, nI x1.fHeight, .bool x1.fMined]]) [(0, true), (1, true), (4, true), (5, true), (6, true), (2, false), (3, false), (7, false), (8, true)] mixed rfl rfl (by kernel_rfl) ?_
  replace HM := HM.grow (fr_drew _)
  have hS := HM.sufN 2 rfl
  refine dp rfl rfl rfl rfl (ex_move rfl rfl) hS (drwp_take rfl (guard_none rfl) rfl rfl (fun w_ hS_ => (ldN rfl rfl U70 rfl tsz70 ((hS_.box_at 0 rfl).subL 0 8 rfl) rfl)) hS (dp rfl rfl rfl rfl (ex_move rfl rfl) hS (dp rfl rfl rfl rfl (ex_move rfl rfl) hS (dp rfl rfl rfl rfl (ex_cutvL rfl rfl rfl U24 tsz70 (HM.mv_rd 0 rfl) e33) hS ?_))))
  replace HM := HM.fr1 1 rfl
  refine drwp_one rfl (guard_none rfl) rfl rfl (does_lit (e := 70) (cs := [(nI x1.fRef.fTx), (nI x1.fRef.fAt), (nI x1.fOut.fValue), p1_0, (nI x1.fOut.fRule.fNeed), (nI x1.fOut.fRule.fAfter), (nI x1.fHeight), (.bool x1.fMined)]) (xs := ([x1] : List Coin)) kCoin rfl rfl (fun _ => by kernel_rfl) rfl rfl (fun _ _ h => by have := Elems.cons (d := kCoin) (x := x1) ⟨_, rfl, h⟩ .nil; rw [List.append_nil, List.append_nil] at this; exact this) HM) ?_
  rintro v37 w38 HM
  have hS := HM.sufN 2 rfl
  refine ⟨hS, ?_⟩
  replace HM := HM.fr1 1 rfl
  refine drwp_one rfl (guard_none rfl) rfl rfl (does_mvA (k := (a12).toNat) kCoin rfl rfl rfl U24 tsz70 tby70 tz70 rfl rfl (leB_le e34) HM) ?_
  rintro v39 w40 HM
  have hS := HM.sufN 1 rfl
  refine ⟨hS, (drwp_one rfl (guard_none rfl) rfl rfl (does_mv3 (j := (a12).toNat) kCoin rfl rfl rfl U24 tsz70 tby70 tz70 rfl rfl (of_decide_eq_true e36) (cut_hi e33) (leB_le e35) HM) ?_)⟩
  rintro v41 w42 HM
  have hS := HM.sufN 1 rfl
  refine ⟨hS, (dp rfl rfl rfl rfl (ex_assign rfl rfl) hS (drwp_done (at_then (run_ret ?_))))⟩
  replace HM := HM.frd 1 rfl
  cases H
  exact at_ret1 rfl rfl ⟨_, rfl, _, rfl, HM⟩

def spec_l4Put.l0 (x1 : Int) (x2 : List Out) (x3 : Int) (x4 : Bool) : Nat → (List Coin) → Int → Option ((List Coin))
 | 0, _, _ => none
 | k + 1, a10, a11 => (bif (decide (a11 < (x2.length : Int))) then (chk (idxOk a11 x2.length) (chk (idxOk a11 x2.length) ((spec_l2Copy.f k ((gt x2 a11).fRule)).bind fun t12 => ((spec_l4Add.f k a10 (⟨(⟨x1, a11⟩ : Ref), (⟨(gt x2 a11).fValue, t12⟩ : Out), x3, x4⟩ : Coin)).bind fun t13 => spec_l4Put.l0 x1 x2 x3 x4 k t13 (wrap64 (a11 + 1)))))) else some a10)
def spec_l4Put.f (k : Nat) (x0 : List Coin) (x1 : Int) (x2 : List Out) (x3 : Int) (x4 : Bool) : Option ((List Coin)) := ((spec_l4Copy.f k x0).bind fun t14 => ((spec_l4Put.l0 x1 x2 x3 x4 k t14 0).bind (fun a15 => some a15)))
theorem spec_l4Put.calls {k : Nat} {x0 : List Coin} {x1 : Int} {x2 : List Out} {x3 : Int} {x4 : Bool} {p0 : Value} {p2 : Value} {w : World} (hp0 : RdS kCoin w p0 x0) (hp2 : RdS kOut w p2 x2) {r : (List Coin)} (H : spec_l4Put.f k x0 x1 x2 x3 x4 = some r) :
  Calls Tryz.prog 53 ([p0, nI x1, p2, nI x3, .bool x4] : List Value).toArray w (fun e w_ => ∃ v, e = .returned v ∧ ∃ u0 : Value, v = u0 ∧ Mem w [] w_ [own kCoin 70 u0 r]) := by
 have HM := Mem.start w
 refine calls_run (N := 44) Tryz.func53 rfl rfl rfl rfl ?_
 unfold spec_l4Put.f at H
 refine run_seq (run_region rfl (oM rfl (ops_nil (at_then (run_seq ?_)))))
 obtain ⟨t14, h16, H⟩ := bind_some H
 refine run_region rfl (oM rfl (oz rfl (does_callk rfl callok48 rfl (spec_l4Copy.calls (x0 := x0) (HM.rd hp0) h16)) ?_))
 rintro u17 w18 ⟨_, rfl, hn⟩
 replace HM := HM.callN hn rfl
 refine oM rfl (ops_nil (at_then ?_))
 obtain ⟨o19, ho20, H⟩ := bind_some H
 refine run_mid (fun ρ_ w_ => ∃ v21 : Value, ∃ a15 : List Coin, a15 = o19 ∧ ρ_ = [(11, v21)] ∧ Mem w [] w_ [own kCoin 70 v21 a15]) ?_ ?_
 ·clear H
  refine run_seq (run_region rfl (oM rfl (ops_nil (at_then (run_block ?_)))))
  refine run_loop (fun k_ ρ_ w_ => ∃ v22 : Value, ∃ a10 : List Coin, ∃ a11 : Int, spec_l4Put.l0 x1 x2 x3 x4 k_ a10 a11 = some o19 ∧ ρ_ = [(1, nI x1), (2, p2), (3, nI x3), (4, .bool x4), (11, v22), (12, nI a11)] ∧ Mem w [] w_ [own kCoin 70 v22 a10]) k ⟨_, _, _, ho20, rfl, HM⟩ (Sub.of rfl) ?_
  clear HM ho20
  rintro k23 _ w24 ⟨v22, a10, a11, ho20, rfl, HM⟩
  obtain _ | k23 := k23
  ·exact nomatch ((spec_l4Put.l0.eq_1 x1 x2 x3 x4 a10 a11).symm.trans ho20)
  replace ho20 := (spec_l4Put.l0.eq_2 ..).symm.trans ho20
  refine run_seq (run_seq (run_region rfl (oM rfl (oM rfl (oy rfl (ex_len (d := kOut) (xs := x2) rfl rfl U26 hp2) (oy rfl (ex_lss rfl rfl rfl) (ops_nil (at_then (run_cond (b := (decide (a11 < (x2.length : Int)))) rfl (fun hb25 => ?_) (fun hb25 => ?_))))))))))
  ·replace ho20 := cond_t hb25 ho20
   refine run_skip (at_then (run_seq (run_block (run_seq ?_))))
   obtain ⟨e26, ho20⟩ := chk_some ho20
   obtain ⟨e27, ho20⟩ := chk_some ho20
   obtain ⟨t12, h28, ho20⟩ := bind_some ho20
   refine run_meet (fun ρ_ w_ => ∃ u29 : Value, ∃ b30 : Nat, ρ_ = [(1, nI x1), (2, p2), (3, nI x3), (4, .bool x4), (11, v22), (12, nI a11), (13, pA b30 0)] ∧ Mem w [] w_ [own kCoin 70 v22 a10, box b30 68 [nI ((gt x2 a11).fValue), u29, nI t12.fNeed, nI t12.fAfter], own kInt 2 u29 t12.fKeys]) ?_ ?_
   ·refine run_draw (fun w_ => Mem w [] w_ [own kCoin 70 v22 a10]) mixed rfl (l := #[false, false, false, false, false, false, false, false, false, false, false, false, false, false]) rfl ?_
    replace HM := HM.grow (fr_drew _)
    have hS := HM.sufN 0 rfl
    refine drw_cut2 (l' := (bs 14 8191)) (f' := 1) (fun (u29 : Value) => fun (b30 : Nat) => [(1, nI x1), (2, p2), (3, nI x3), (4, .bool x4), (11, v22), (12, nI a11), (33, .agg #[(nI ((gt x2 a11).fValue)), u29, (nI t12.fNeed), (nI t12.fAfter)]), (13, pA b30 0)]) (fun (u29 : Value) => fun (b30 : Nat) => fun w_ => Mem w [] w_ [box b30 68 [nI 0, .slice none 0 0, nI 0, nI 0], own kInt 2 u29 t12.fKeys, own kCoin 70 v22 a10]) ?_ (fun K31 => ?_)
    ·rintro u29 b30 w32 HM
     have hS := HM.sufN 2 rfl
     refine drw_any [13] (by kernel_rfl) rfl (.cons ?_ .nil)
     refine br_doesS (l' := (bs 14 16383)) rfl (guard_none rfl) rfl (by kernel_rfl) (does_store (vs := [nI ((gt x2 a11).fValue), u29, nI t12.fNeed, nI t12.fAfter]) (cs' := [nI ((gt x2 a11).fValue), u29, nI t12.fNeed, nI t12.fAfter]) rfl rfl rfl rfl tsz68 (Ones.int (Ones.rd (HM.own_rd 1 rfl) (Ones.int (Ones.int Ones.nil)))) rfl rfl HM) ?_
     rintro w33 HM
     have hS := HM.sufN 2 rfl
     refine ⟨hS, (drw_done (by kernel_rfl) ?_)⟩
     replace HM := ((HM.fr1 1 rfl).fr1 1 rfl).fr1 2 rfl
     exact at_meet _ ⟨_, _, rfl, HM⟩ (Sub.of rfl)
    refine dt 0 (bs 14 1) rfl rfl rfl rfl (by kernel_rfl) (ex_move rfl rfl) hS ?_
    refine dt 1 (bs 14 3) rfl rfl rfl rfl (by kernel_rfl) (ex_move rfl rfl) hS ?_
    obtain ⟨kv34, hc35, hk36⟩ := rd_with1 hp2 e26
    refine dt 2 (bs 14 7) rfl rfl rfl rfl (by kernel_rfl) (ex_indexAddr (d := kOut) rfl rfl rfl U26 tsz68 hp2 (idx_lo e26) (idx_hi e26)) hS ?_
    refine dt 3 (bs 14 15) rfl rfl rfl rfl (by kernel_rfl) (ex_fieldAddr (off' := so p2 + (a11).toNat * 4) rfl rfl U68 rfl tsz2 rfl) hS ?_
    refine drw_take (i := 4) (l' := (bs 14 31)) rfl (guard_none rfl) rfl rfl (by kernel_rfl) (fun w_ hS_ => (ex_load1 rfl rfl U2 rfl ((hS_.at_ hc35) 0 _ rfl))) hS ?_
    refine dt 5 (bs 14 63) rfl rfl rfl rfl (by kernel_rfl) (ex_move rfl rfl) hS ?_
    refine dt 6 (bs 14 127) rfl rfl rfl rfl (by kernel_rfl) (ex_move rfl rfl) hS ?_
    obtain ⟨kv37, hc38, hk39⟩ := rd_with1 hp2 e27
    refine dt 7 (bs 14 255) rfl rfl rfl rfl (by kernel_rfl) (ex_indexAddr (d := kOut) rfl rfl rfl U26 tsz68 hp2 (idx_lo e27) (idx_hi e27)) hS ?_
    refine dt 8 (bs 14 511) rfl rfl rfl rfl (by kernel_rfl) (ex_fieldAddr (off' := so p2 + (a11).toNat * 4 + 1) rfl rfl U68 rfl tsz66 rfl) hS ?_
    refine drw_take (i := 9) (l' := (bs 14 1023)) rfl (guard_none rfl) rfl rfl (by kernel_rfl) (fun w_ hS_ => (ldN rfl rfl U66 rfl tsz66 ((hS_.at_ hc38).subL 1 3 rfl) rfl)) hS ?_
    refine drw_any [10, 12] (by kernel_rfl) rfl (.cons ?_ (.cons ?_ .nil))
    ·refine br_does (l' := (bs 14 2047)) rfl (guard_none rfl) rfl rfl (by kernel_rfl) (does_callk rfl callok89 rfl (spec_l2Copy.calls (x0 := (gt x2 a11).fRule) (HM.rd hk39) h28)) ?_
     rintro _ w40 ⟨u29, rfl, hn⟩
     replace HM := HM.callN hn rfl
     have hS := HM.sufN 1 rfl
     refine ⟨hS, (dt 11 (bs 14 4095) rfl rfl rfl rfl (by kernel_rfl) (ex_build1 (fun u29 => [(0, nI ((gt x2 a11).fValue)), (1, .agg #[u29, (nI t12.fNeed), (nI t12.fAfter)])]) (fun u29 => #[nI ((gt x2 a11).fValue), u29, nI t12.fNeed, nI t12.fAfter]) rfl rfl (fun _ _ _ => by kernel_rfl) (HM.own_rd 0 rfl).isSl) hS ?_)⟩
     refine drw_any [12] (by kernel_rfl) rfl (.cons ?_ .nil)
     refine br_does (l' := (bs 14 8191)) rfl (guard_none rfl) rfl rfl (by kernel_rfl) (does_alloc (cs := [nI 0, .slice none 0 0, nI 0, nI 0]) rfl tz68 rfl HM) ?_
     rintro _ w41 ⟨b30, rfl, HM⟩
     have hS := HM.sufN 2 rfl
     exact ⟨hS, (drw_sub (K31 u29 b30 _ HM) (Sub.of rfl))⟩
    ·refine br_does (l' := (bs 14 5119)) rfl (guard_none rfl) rfl rfl (by kernel_rfl) (does_alloc (cs := [nI 0, .slice none 0 0, nI 0, nI 0]) rfl tz68 rfl HM) ?_
     rintro _ w42 ⟨b30, rfl, HM⟩
     have hS := HM.sufN 1 rfl
     refine ⟨hS, (drw_any [10] (by kernel_rfl) rfl (.cons ?_ .nil))⟩
     refine br_does (l' := (bs 14 6143)) rfl (guard_none rfl) rfl rfl (by kernel_rfl) (does_callk rfl callok89 rfl (spec_l2Copy.calls (x0 := (gt x2 a11).fRule) (HM.rd hk39) h28)) ?_
     rintro _ w43 ⟨u29, rfl, hn⟩
     replace HM := HM.callN hn rfl
     have hS := HM.sufN 2 rfl
     refine ⟨hS, (dt 11 (bs 14 8191) rfl rfl rfl rfl (by kernel_rfl) (ex_build1 (fun u29 => [(0, nI ((gt x2 a11).fValue)), (1, .agg #[u29, (nI t12.fNeed), (nI t12.fAfter)])]) (fun u29 => #[nI ((gt x2 a11).fValue), u29, nI t12.fNeed, nI t12.fAfter]) rfl rfl (fun _ _ _ => by kernel_rfl) (HM.own_rd 0 rfl).isSl) hS ?_)⟩
     replace HM := ((HM.fr1 2 rfl).fr1 1 rfl).fr1 2 rfl
     exact drw_sub (K31 u29 b30 _ HM) (Sub.of rfl)
   ·rintro _ w44 ⟨u29, b30, rfl, HM⟩
    refine at_then ?_
    obtain ⟨t13, h45, ho20⟩ := bind_some ho20
    refine run_region rfl (oM rfl (oM rfl (oM rfl (oy rfl (ex_build (cells := #[(nI x1), (nI a11)]) rfl rfl (by kernel_rfl)) ?_))))
    refine oy rfl (ldN rfl rfl U68 rfl tsz68 ((HM.box_at 1 rfl).subL 0 4 rfl) rfl) (oM rfl (oM rfl (oy rfl (ex_build1 (fun u29 => [(0, .agg #[(nI x1), (nI a11)]), (1, .agg #[(nI ((gt x2 a11).fValue)), u29, (nI t12.fNeed), (nI t12.fAfter)]), (2, nI x3), (3, .bool x4)]) (fun u29 => #[nI x1, nI a11, nI ((gt x2 a11).fValue), u29, nI t12.fNeed, nI t12.fAfter, nI x3, .bool x4]) rfl rfl (fun _ _ _ => by kernel_rfl) (HM.own_rd 2 rfl).isSl) ?_)))
    replace HM := (HM.fr1 2 rfl).fr1 1 rfl
    obtain ⟨F46, hF47, hFn48, hFl49, HMh50, hcl51⟩ := HM.hideN 2 rfl
    refine oz rfl (does_callk rfl callok91 rfl (spec_l4Add.calls (x0 := a10) (x1 := (⟨(⟨x1, a11⟩ : Ref), (⟨(gt x2 a11).fValue, t12⟩ : Out), x3, x4⟩ : Coin)) (hide_olds _ _) hF47 hFn48 hFl49 h45)) ?_
    rintro u52 w53 ⟨_, rfl, hn⟩
    replace HM := hcl51 _ _ _ rfl hn
    refine oM rfl (ops_nil (at_block (at_then (run_region rfl (oM rfl (oy rfl (ex_add rfl rfl rfl) (oM rfl (ops_nil ?_))))))))
    replace HM := HM.frd 1 rfl
    exact at_again k23 (Nat.lt_succ_self _) ⟨_, _, _, ho20, rfl, HM⟩ (Sub.of rfl)
  ·replace ho20 := cond_f hb25 ho20
   exact run_exit (at_then_exit (at_then_exit (at_block_exit (at_mid ⟨_, _, (sj ho20), rfl, HM⟩ (Sub.of rfl)))))
 ·rintro _ w54 ⟨v21, a15, rfl, rfl, HM⟩
  refine run_seq (run_region rfl (oM rfl (oM rfl (ops_nil (at_then (run_ret ?_))))))
  cases H
  exact at_ret1 rfl rfl ⟨_, rfl, _, rfl, HM⟩

def spec_PutCoins.l0 (x2 : List Out) : Nat → Int → Option (CoinsResult ⊕ Unit)
 | 0, _ => none
 | k + 1, a10 => (bif (decide (a10 < (x2.length : Int))) then (chk (idxOk a10 x2.length) ((spec_l4Out.f k (gt x2 a10)).bind fun t11 => (bif (t11 != 0) then some (.inl (⟨t11, ([] : List Coin)⟩ : CoinsResult)) else spec_PutCoins.l0 x2 k (wrap64 (a10 + 1))))) else some (.inr ()))
def spec_PutCoins.f (k : Nat) (x0 : List Coin) (x1 : Int) (x2 : List Out) (x3 : Int) (x4 : Bool) : Option CoinsResult := ((spec_l4Fault.f k x0).bind fun t12 => (bif (t12 != 0) then some (⟨t12, ([] : List Coin)⟩ : CoinsResult) else ((spec_l1In.f k x1 1 60).bind fun t13 => ((bif (!(!t13)) then spec_l2Height.f k x3 else some default).bind fun t14 => (bif ((!t13) || (!t14)) then some (⟨3, ([] : List Coin)⟩ : CoinsResult) else (bif (decide (4 < (x2.length : Int))) then some (⟨2, ([] : List Coin)⟩ : CoinsResult) else ((spec_PutCoins.l0 x2 k 0).bind fun o15 => thn o15 (fun r => some r) (fun _ => ((spec_l4Of.f k x0 x1).bind fun t16 => (bif t16 then some (⟨7, ([] : List Coin)⟩ : CoinsResult) else (bif (decide (40 < (wrap64 ((x0.length : Int) + (x2.length : Int))))) then some (⟨2, ([] : List Coin)⟩ : CoinsResult) else ((spec_l4Put.f k x0 x1 x2 x3 x4).bind fun t17 => some (⟨0, t17⟩ : CoinsResult)))))))))))))
theorem spec_PutCoins.calls {k : Nat} {x0 : List Coin} {x1 : Int} {x2 : List Out} {x3 : Int} {x4 : Bool} {p0 : Value} {p2 : Value} {w : World} (hp0 : RdS kCoin w p0 x0) (hp2 : RdS kOut w p2 x2) {r : CoinsResult} (H : spec_PutCoins.f k x0 x1 x2 x3 x4 = some r) :
  Calls Tryz.prog 22 ([p0, nI x1, p2, nI x3, .bool x4] : List Value).toArray w (fun e w_ => ∃ v, e = .returned v ∧ ∃ u0 : Value, v = (.agg #[nI r.fCode, u0]) ∧ Mem w [] w_ [own kCoin 70 u0 r.fCoins]) := by
 have HM := Mem.start w
 refine calls_run (N := 65) Tryz.func22 rfl rfl rfl rfl ?_
 unfold spec_PutCoins.f at H
 refine run_seq (run_region rfl (oz rfl (does_alloc (cs := [nI 0, .slice none 0 0]) rfl tz32 rfl HM) ?_))
 rintro _ w18 ⟨b19, rfl, HM⟩
 refine ops_nil (at_then (run_seq (run_seq ?_)))
 obtain ⟨t12, h20, H⟩ := bind_some H
 refine run_region rfl (oM rfl (oz rfl (does_callk rfl callok45 rfl (spec_l4Fault.calls (x0 := x0) (HM.rd hp0) h20)) ?_))
 rintro _ w21 ⟨rfl, hn⟩
 replace HM := HM.callN hn rfl
 refine oM rfl (ops_nil (at_then (run_seq (run_region rfl (oM rfl (oy rfl (ex_neq rfl rfl rfl) (ops_nil (at_then (run_cond (b := (t12 != 0)) rfl (fun hb22 => ?_) (fun hb22 => ?_))))))))))
 ·replace H := cond_t hb22 H
  refine run_seq (run_region rfl (oM rfl (oy rfl (ex_build (cells := #[(nI t12), (.slice none 0 0)]) rfl rfl (by kernel_rfl)) ?_)))
  refine odS rfl rfl rfl (does_store (vs := [nI t12, .slice none 0 0]) (cs' := [nI t12, .slice none 0 0]) rfl rfl rfl rfl tsz32 (Ones.int (Ones.sl Ones.nil)) rfl rfl HM) ?_
  rintro w23 HM
  refine ops_nil (at_then (run_ret (at_then_ret ?_)))
  replace HM := (HM.empty kCoin 70 none).fr1 1 rfl
  have hcb0 := HM.box_at 0 rfl
  replace HM := HM.frd 0 rfl
  cases H
  exact at_retN rfl rfl U32 rfl tsz32 rfl hcb0 ⟨_, rfl, _, rfl, HM⟩
 ·replace H := cond_f hb22 H
  refine run_skip (at_then (run_seq (run_seq ?_)))
  obtain ⟨t13, h24, H⟩ := bind_some H
  obtain ⟨t14, h25, H⟩ := bind_some H
  refine run_meet (fun ρ_ w_ => ρ_ = [(0, p0), (1, nI x1), (2, p2), (3, nI x3), (4, .bool x4), (10, pA b19 0), (27, .bool ((!t13) || (!t14)))] ∧ Mem w [] w_ [box b19 32 [nI 0, .slice none 0 0]]) ?_ ?_
  ·refine run_region rfl (oM rfl (oz rfl (does_callk rfl callok50 rfl (spec_l1In.calls (x0 := x1) (x1 := 1) (x2 := 60) h24)) ?_))
   rintro _ w26 ⟨rfl, hn⟩
   replace HM := HM.callN hn rfl
   refine oy rfl (ex_not rfl rfl) (oM rfl ?_)
   refine bool_cases (!t13) (fun hg27 => ?_) (fun hg27 => ?_)
   ·refine gf rfl hg27 (gf rfl hg27 (gf rfl hg27 ?_))
    have hg28 : ((!t13) || (!t14)) = true := by simp only [hg27, Bool.and_true, Bool.true_and, Bool.and_false, Bool.false_and, Bool.or_true, Bool.true_or, Bool.or_false, Bool.false_or, Bool.not_true, Bool.not_false, Bool.not_not]
    exact ops_ex (v := .bool ((!t13) || (!t14))) rfl (guard_none rfl) rfl rfl (ex_por_t rfl rfl hg27) (ops_nil (at_meet _ ⟨rfl, HM⟩ (Sub.of rfl)))
   ·refine gn rfl hg27 (ex_move rfl rfl) (ops_does rfl (guard_on rfl rfl rfl hg27) rfl rfl (does_callk rfl callok51 rfl (spec_l2Height.calls (x0 := x3) (cond_t (not_mk hg27) h25))) ?_)
    rintro _ w29 ⟨rfl, hn⟩
    replace HM := HM.callN hn rfl
    exact gn rfl hg27 (ex_not rfl rfl) (ops_ex (v := .bool ((!t13) || (!t14))) rfl (guard_none rfl) rfl rfl (ex_por_f rfl rfl hg27 rfl) (ops_nil (at_meet _ ⟨rfl, HM⟩ (Sub.of rfl))))
  ·rintro _ w30 ⟨rfl, HM⟩
   refine at_then (run_cond (b := ((!t13) || (!t14))) rfl (fun hb31 => ?_) (fun hb31 => ?_))
   ·replace H := cond_t hb31 H
    refine run_seq (run_region rfl (oy rfl (ex_build (cells := #[(nI 3), (.slice none 0 0)]) rfl rfl (by kernel_rfl)) ?_))
    refine odS rfl rfl rfl (does_store (vs := [nI 3, .slice none 0 0]) (cs' := [nI 3, .slice none 0 0]) rfl rfl rfl rfl tsz32 (Ones.int (Ones.sl Ones.nil)) rfl rfl HM) ?_
    rintro w32 HM
    refine ops_nil (at_then (run_ret (at_then_ret ?_)))
    replace HM := (HM.empty kCoin 70 none).fr1 1 rfl
    have hcb0 := HM.box_at 0 rfl
    replace HM := HM.frd 0 rfl
    cases H
    exact at_retN rfl rfl U32 rfl tsz32 rfl hcb0 ⟨_, rfl, _, rfl, HM⟩
   ·replace H := cond_f hb31 H
    refine run_skip (at_then (run_seq (run_seq (run_region rfl (oM rfl (oy rfl (ex_len (d := kOut) (xs := x2) rfl rfl U26 hp2) (oy rfl (ex_gtr rfl rfl rfl) (ops_nil (at_then (run_cond (b := (decide (4 < (x2.length : Int)))) rfl (fun hb33 => ?_) (fun hb33 => ?_)))))))))))
    ·replace H := cond_t hb33 H
     refine run_seq (run_region rfl (oy rfl (ex_build (cells := #[(nI 2), (.slice none 0 0)]) rfl rfl (by kernel_rfl)) ?_))
     refine odS rfl rfl rfl (does_store (vs := [nI 2, .slice none 0 0]) (cs' := [nI 2, .slice none 0 0]) rfl rfl rfl rfl tsz32 (Ones.int (Ones.sl Ones.nil)) rfl rfl HM) ?_
     rintro w34 HM
     refine ops_nil (at_then (run_ret (at_then_ret ?_)))
     replace HM := (HM.empty kCoin 70 none).fr1 1 rfl
     have hcb0 := HM.box_at 0 rfl
     replace HM := HM.frd 0 rfl
     cases H
     exact at_retN rfl rfl U32 rfl tsz32 rfl hcb0 ⟨_, rfl, _, rfl, HM⟩
    ·replace H := cond_f hb33 H
     refine run_skip (at_then ?_)
     obtain ⟨o15, ho35, H⟩ := bind_some H
     refine run_mid (fun ρ_ w_ => Sum.inr () = o15 ∧ ρ_ = [(0, p0), (1, nI x1), (2, p2), (3, nI x3), (4, .bool x4), (10, pA b19 0)] ∧ Mem w [] w_ [box b19 32 [nI 0, .slice none 0 0]]) ?_ ?_
     ·refine run_seq (run_region rfl (oM rfl (ops_nil (at_then (run_block ?_)))))
      refine run_loop (fun k_ ρ_ w_ => ∃ a10 : Int, spec_PutCoins.l0 x2 k_ a10 = some o15 ∧ ρ_ = [(0, p0), (1, nI x1), (2, p2), (3, nI x3), (4, .bool x4), (10, pA b19 0), (12, nI a10)] ∧ Mem w [] w_ [box b19 32 [nI 0, .slice none 0 0]]) k ⟨_, ho35, rfl, HM⟩ (Sub.of rfl) ?_
      clear HM ho35
      rintro k36 _ w37 ⟨a10, ho35, rfl, HM⟩
      obtain _ | k36 := k36
      ·exact nomatch ((spec_PutCoins.l0.eq_1 x2 a10).symm.trans ho35)
      replace ho35 := (spec_PutCoins.l0.eq_2 ..).symm.trans ho35
      refine run_seq (run_seq (run_region rfl (oM rfl (oM rfl (oy rfl (ex_len (d := kOut) (xs := x2) rfl rfl U26 hp2) (oy rfl (ex_lss rfl rfl rfl) (ops_nil (at_then (run_cond (b := (decide (a10 < (x2.length : Int)))) rfl (fun hb38 => ?_) (fun hb38 => ?_))))))))))
      ·replace ho35 := cond_t hb38 ho35
       refine run_skip (at_then (run_seq (run_block (run_seq ?_))))
       obtain ⟨e39, ho35⟩ := chk_some ho35
       obtain ⟨t11, h40, ho35⟩ := bind_some ho35
       refine run_region rfl (oM rfl (oM rfl ?_))
       obtain ⟨kv41, hc42, hk43⟩ := rd_with1 hp2 e39
       refine oy rfl (ex_indexAddr (d := kOut) rfl rfl rfl U26 tsz68 hp2 (idx_lo e39) (idx_hi e39)) (oz rfl (does_callk rfl callok52 rfl (spec_l4Out.calls (x0 := (gt x2 a10)) (HM.at_ hc42) (HM.rd hk43) h40)) ?_)
       rintro _ w44 ⟨rfl, hn⟩
       replace HM := HM.callN hn rfl
       refine oM rfl (ops_nil (at_then (run_seq (run_region rfl (oM rfl (oy rfl (ex_neq rfl rfl rfl) (ops_nil (at_then (run_cond (b := (t11 != 0)) rfl (fun hb45 => ?_) (fun hb45 => ?_))))))))))
       ·replace ho35 := cond_t hb45 ho35
        refine run_seq (run_region rfl (oM rfl (oy rfl (ex_build (cells := #[(nI t11), (.slice none 0 0)]) rfl rfl (by kernel_rfl)) ?_)))
        refine odS rfl rfl rfl (does_store (vs := [nI t11, .slice none 0 0]) (cs' := [nI t11, .slice none 0 0]) rfl rfl rfl rfl tsz32 (Ones.int (Ones.sl Ones.nil)) rfl rfl HM) ?_
        rintro w46 HM
        refine ops_nil (at_then (run_ret (at_block_ret (at_then_ret (at_then_ret (at_block_ret (at_then_ret ?_)))))))
        replace HM := (HM.empty kCoin 70 none).fr1 1 rfl
        have hcb0 := HM.box_at 0 rfl
        replace HM := HM.frd 0 rfl
        cases ho35
        have hT := thn_inl H
        cases hT
        exact at_retN rfl rfl U32 rfl tsz32 rfl hcb0 ⟨_, rfl, _, rfl, HM⟩
       ·replace ho35 := cond_f hb45 ho35
        exact run_skip (at_block (at_then (run_region rfl (oM rfl (oy rfl (ex_add rfl rfl rfl) (oM rfl (ops_nil (at_again k36 (Nat.lt_succ_self _) ⟨_, ho35, rfl, HM⟩ (Sub.of rfl)))))))))
      ·replace ho35 := cond_f hb38 ho35
       exact run_exit (at_then_exit (at_then_exit (at_block_exit (at_mid ⟨(sj ho35), rfl, HM⟩ (Sub.of rfl)))))
     ·rintro _ w47 ⟨rfl, rfl, HM⟩
      replace H := (thn_inr H)
      refine run_seq (run_seq ?_)
      obtain ⟨t16, h48, H⟩ := bind_some H
      refine run_region rfl (oM rfl (oM rfl (oz rfl (does_callk rfl callok20 rfl (spec_l4Of.calls (x0 := x0) (x1 := x1) (HM.rd hp0) h48)) ?_)))
      rintro _ w49 ⟨rfl, hn⟩
      replace HM := HM.callN hn rfl
      refine ops_nil (at_then (run_cond (b := t16) rfl (fun hb50 => ?_) (fun hb50 => ?_)))
      ·replace H := cond_t hb50 H
       refine run_seq (run_region rfl (oy rfl (ex_build (cells := #[(nI 7), (.slice none 0 0)]) rfl rfl (by kernel_rfl)) ?_))
       refine odS rfl rfl rfl (does_store (vs := [nI 7, .slice none 0 0]) (cs' := [nI 7, .slice none 0 0]) rfl rfl rfl rfl tsz32 (Ones.int (Ones.sl Ones.nil)) rfl rfl HM) ?_
       rintro w51 HM
       refine ops_nil (at_then (run_ret (at_then_ret ?_)))
       replace HM := (HM.empty kCoin 70 none).fr1 1 rfl
       have hcb0 := HM.box_at 0 rfl
       replace HM := HM.frd 0 rfl
       cases H
       exact at_retN rfl rfl U32 rfl tsz32 rfl hcb0 ⟨_, rfl, _, rfl, HM⟩
      ·replace H := cond_f hb50 H
       refine run_skip (at_then (run_seq (run_seq (run_region rfl (oM rfl (oy rfl (ex_len (d := kCoin) (xs := x0) rfl rfl U24 hp0) (oM rfl (oy rfl (ex_len (d := kOut) (xs := x2) rfl rfl U26 hp2) (oy rfl (ex_add rfl rfl rfl) ?_)))))))))
       refine oy rfl (ex_gtr rfl rfl rfl) (ops_nil (at_then (run_cond (b := (decide (40 < (wrap64 ((x0.length : Int) + (x2.length : Int)))))) rfl (fun hb52 => ?_) (fun hb52 => ?_))))
       ·replace H := cond_t hb52 H
        refine run_seq (run_region rfl (oy rfl (ex_build (cells := #[(nI 2), (.slice none 0 0)]) rfl rfl (by kernel_rfl)) ?_))
        refine odS rfl rfl rfl (does_store (vs := [nI 2, .slice none 0 0]) (cs' := [nI 2, .slice none 0 0]) rfl rfl rfl rfl tsz32 (Ones.int (Ones.sl Ones.nil)) rfl rfl HM) ?_
        rintro w53 HM
        refine ops_nil (at_then (run_ret (at_then_ret ?_)))
        replace HM := (HM.empty kCoin 70 none).fr1 1 rfl
        have hcb0 := HM.box_at 0 rfl
        replace HM := HM.frd 0 rfl
        cases H
        exact at_retN rfl rfl U32 rfl tsz32 rfl hcb0 ⟨_, rfl, _, rfl, HM⟩
       ·replace H := cond_f hb52 H
        refine run_skip (at_then (run_seq ?_))
        obtain ⟨t17, h54, H⟩ := bind_some H
        refine run_region rfl (oM rfl (oM rfl (oM rfl (oM rfl (oM rfl (oz rfl (does_callk rfl callok53 rfl (spec_l4Put.calls (x0 := x0) (x1 := x1) (x2 := x2) (x3 := x3) (x4 := x4) (HM.rd hp0) (HM.rd hp2) h54)) ?_))))))
        rintro u55 w56 ⟨_, rfl, hn⟩
        replace HM := HM.callN hn rfl
        refine oy rfl (ex_build1 (fun u55 => [(1, u55)]) (fun u55 => #[nI 0, u55]) rfl rfl (fun _ _ _ => by kernel_rfl) (HM.own_rd 0 rfl).isSl) ?_
        replace HM := HM.fr1 1 rfl
        refine odS rfl rfl rfl (does_store (vs := [nI 0, u55]) (cs' := [nI 0, u55]) rfl rfl rfl rfl tsz32 (Ones.int (Ones.rd (HM.own_rd 1 rfl) Ones.nil)) rfl rfl HM) ?_
        rintro w57 HM
        refine ops_nil (at_then (run_ret ?_))
        have hcb0 := HM.box_at 0 rfl
        replace HM := HM.frd 0 rfl
        cases H
        exact at_retN rfl rfl U32 rfl tsz32 rfl hcb0 ⟨_, rfl, _, rfl, HM⟩
end Go.Proofs.YtecgbhfgkkpmhacGreat.Zk
