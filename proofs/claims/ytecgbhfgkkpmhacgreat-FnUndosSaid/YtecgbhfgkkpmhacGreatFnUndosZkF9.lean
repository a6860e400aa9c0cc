/- What functions of the program compute, each as a plain function, and that they do. Conditions: as each theorem states them. -/
import Derived.Test.YtecgbhfgkkpmhacGreatFnUndosZkF8
namespace Go.Proofs.YtecgbhfgkkpmhacGreat.Zk
open Go Go.RowKit Go.IntWalk Go.Proofs
set_option linter.unusedVariables false
set_option linter.unusedSimpArgs false
set_option maxRecDepth 100000
set_option maxHeartbeats 4000000
def spec_l4Bent.f (k : Nat) (x0 : l1Src) : Option ((List Coin) × Int) := ((spec_l4Right.f k x0).bind fun t10 => ((bif (decide (0 < (t10.1.length : Int))) then ((spec_l1Next.f k (⟨x0.fCode, t10.2⟩ : l1Src) 14).bind fun t11 => (bif (t11.1 == 0) then ((spec_l1Pick.f k (⟨x0.fCode, t11.2⟩ : l1Src) ([0, 61, 3] : List Int)).bind fun t12 => (chk (idxOk (0 : Int) t10.1.length) (some (t12.2, t10.1.set ((0 : Int)).toNat (⟨(⟨t12.1, (gt t10.1 (0 : Int)).fRef.fAt⟩ : Ref), (gt t10.1 (0 : Int)).fOut, (gt t10.1 (0 : Int)).fHeight, (gt t10.1 (0 : Int)).fMined⟩ : Coin))))) else (bif (t11.1 == 1) then ((spec_l1Pick.f k (⟨x0.fCode, t11.2⟩ : l1Src) ([(-1), 1000] : List Int)).bind fun t13 => (chk (idxOk (0 : Int) t10.1.length) (some (t13.2, t10.1.set ((0 : Int)).toNat (⟨(gt t10.1 (0 : Int)).fRef, (gt t10.1 (0 : Int)).fOut, t13.1, (gt t10.1 (0 : Int)).fMined⟩ : Coin))))) else (bif (t11.1 == 2) then (chk (idxOk (0 : Int) t10.1.length) (some (t11.2, t10.1.set ((0 : Int)).toNat (⟨(gt t10.1 (0 : Int)).fRef, (⟨0, (gt t10.1 (0 : Int)).fOut.fRule⟩ : Out), (gt t10.1 (0 : Int)).fHeight, (gt t10.1 (0 : Int)).fMined⟩ : Coin)))) else (bif (t11.1 == 3) then (chk (idxOk (0 : Int) t10.1.length) (chk (leB ((t10.1.length + 1) * 80) 140737488355328) (some (t11.2, t10.1 ++ ([(gt t10.1 (0 : Int))] : List Coin))))) else some (t11.2, t10.1)))))) else some (t10.2, t10.1)).bind (cur2 (fun a14 a15 => ((spec_l1Chance.f k (⟨x0.fCode, a14⟩ : l1Src) 40).bind fun t16 => (bif t16.1 then (chk (decide (0 ≤ (41 : Int))) (chk (leB (((41 : Int)).toNat * 80) 281474976710656) (some (List.replicate ((41 : Int)).toNat (⟨(⟨0, 0⟩ : Ref), (⟨0, (⟨[], 0, 0⟩ : Rule)⟩ : Out), 0, false⟩ : Coin), t16.2)))) else some (a15, t16.2)))))))
theorem spec_l4Bent.calls {k : Nat} {x0 : l1Src} {b0 : Nat} {p0_0 : Value} {w wo : World} {X : List Nat} (hwo : Olds wo w X) (hX : Hold w [box b0 78 [p0_0, nI x0.fAt]] X) (hXn : X.Nodup) (hXl : ∀ b ∈ X, b < w.heap.size) (hp0_0 : RdS kU8 wo p0_0 x0.fCode) {r : (List Coin) × Int} (H : spec_l4Bent.f k x0 = some r) :
  Calls Tryz.prog 36 ([pA b0 0] : List Value).toArray w (fun e w_ => ∃ v, e = .returned v ∧ ∃ u0 : Value, v = u0 ∧ Mem w X w_ [fro kCoin u0 r.1, box b0 78 [p0_0, nI r.2]]) := by
 have HM := Mem.startX hX hXn hXl
 refine calls_run (N := 46) Tryz.func36 rfl rfl rfl rfl ?_
 unfold spec_l4Bent.f at H
 refine run_seq (run_region rfl (oM rfl (ops_nil (at_then (run_seq ?_)))))
 obtain ⟨t10, h17, H⟩ := bind_some H
 refine run_region rfl (oM rfl ?_)
 obtain ⟨F18, hF19, hFn20, hFl21, HMh22, hcl23⟩ := HM.hideN 1 rfl
 refine oz rfl (does_callk rfl callok70 rfl (spec_l4Right.calls (x0 := x0) (hide_olds _ _) hF19 hFn20 hFl21 (HMh22.rdo hwo hp0_0) h17)) ?_
 rintro u24 w25 ⟨_, rfl, hn⟩
 replace HM := hcl23 _ _ _ rfl hn
 refine oM rfl (ops_nil (at_then ?_))
 obtain ⟨o26, ho27, H⟩ := bind_some H
 refine run_mid (fun ρ_ w_ => ∃ a14 : Int, ∃ v28 : Value, ∃ a15 : List Coin, (a14, a15) = o26 ∧ ρ_ = [(0, pA b0 0), (3, v28)] ∧ Mem w X w_ [box b0 78 [p0_0, nI a14], fro kCoin v28 a15]) ?_ ?_
 ·clear H
  refine run_seq (run_region rfl (oM rfl (oy rfl (ex_len (d := kCoin) (xs := t10.1) rfl rfl U24 (HM.own_rd 0 rfl)) (oy rfl (ex_gtr rfl rfl rfl) (ops_nil (at_then (run_cond (b := (decide (0 < (t10.1.length : Int)))) rfl (fun hb29 => ?_) (fun hb29 => ?_))))))))
  ·replace ho27 := cond_t hb29 ho27
   refine run_seq ?_
   obtain ⟨t11, h30, ho27⟩ := bind_some ho27
   refine run_region rfl (oM rfl ?_)
   replace HM := HM.fr1 1 rfl
   obtain ⟨F31, hF32, hFn33, hFl34, HMh35, hcl36⟩ := HM.hideN 1 rfl
   refine oz rfl (does_callk rfl callok16 rfl (spec_l1Next.calls (x0 := (⟨x0.fCode, t10.2⟩ : l1Src)) (x1 := 14) (hide_olds _ _) hF32 hFn33 hFl34 (HMh35.rdo hwo hp0_0) h30)) ?_
   rintro _ w37 ⟨rfl, hn⟩
   replace HM := hcl36 _ _ _ rfl hn
   refine ops_nil (at_then (run_block (run_seq (run_region rfl (oy rfl (ex_eql rfl rfl rfl) (oM rfl (ops_nil (at_then (run_cond (b := (t11.1 == 0)) rfl (fun hb38 => ?_) (fun hb38 => ?_))))))))))
   ·replace ho27 := cond_t hb38 ho27
    obtain ⟨t12, h39, ho27⟩ := bind_some ho27
    obtain ⟨e40, ho27⟩ := chk_some ho27
    refine run_region rfl (oM rfl (oM rfl (oz rfl (does_lit (e := 2) (cs := [nI 0, nI 61, nI 3]) (xs := ([0, 61, 3] : List Int)) kInt rfl rfl (fun _ => by kernel_rfl) rfl rfl (fun _ _ h => by have h' : _ = [] := h; subst h'; exact (Elems.cons (d := kInt) (x := 0) (f := []) ⟨rfl, rfl⟩ (Elems.cons (d := kInt) (x := 61) (f := []) ⟨rfl, rfl⟩ (Elems.cons (d := kInt) (x := 3) (f := []) ⟨rfl, rfl⟩ .nil)))) HM.emp) ?_)))
    rintro v41 w42 HM
    replace HM := HM.fr1 1 rfl
    obtain ⟨F43, hF44, hFn45, hFl46, HMh47, hcl48⟩ := HM.hideN 1 rfl
    refine oz rfl (does_callk rfl callok15 rfl (spec_l1Pick.calls (x0 := (⟨x0.fCode, t11.2⟩ : l1Src)) (x1 := ([0, 61, 3] : List Int)) (hide_olds _ _) hF44 hFn45 hFl46 (HMh47.rdo hwo hp0_0) (HMh47.own_rd 0 rfl) h39)) ?_
    rintro _ w49 ⟨rfl, hn⟩
    replace HM := hcl48 _ _ _ rfl hn
    refine oy rfl (ex_indexAddr (d := kCoin) rfl rfl rfl U24 tsz70 (HM.own_rd 2 rfl) (idx_lo e40) (idx_hi e40)) (oy rfl (ex_fieldAddr (off' := so u24 + ((0 : Int)).toNat * 8) rfl rfl U70 rfl tsz38 rfl) (oy rfl (ex_fieldAddr (off' := so u24 + ((0 : Int)).toNat * 8) rfl rfl U38 rfl tsz2 rfl) ?_))
    replace HM := HM.fr1 2 rfl
    refine odS rfl rfl rfl (does_setField (fo := 0) (vs := [(nI t12.1)]) (y := (⟨(⟨t12.1, (gt t10.1 (0 : Int)).fRef.fAt⟩ : Ref), (gt t10.1 (0 : Int)).fOut, (gt t10.1 (0 : Int)).fHeight, (gt t10.1 (0 : Int)).fMined⟩ : Coin)) kCoin rfl rfl rfl rfl rfl tsz2 (Ones.int Ones.nil) rfl rfl (idx_nat e40) (fun _ _ _ h => by rw [← gt_eq (idx_nat e40)] at h; obtain ⟨_, rfl, h2⟩ := h; exact ⟨_, rfl, h2⟩) HM) ?_
    rintro w50 HM
    refine ops_nil (at_block ?_)
    replace HM := ((HM.fro).frd 2 rfl).fr1 1 rfl
    exact at_mid ⟨_, _, _, (sj ho27), rfl, HM⟩ (Sub.of rfl)
   ·replace ho27 := cond_f hb38 ho27
    refine run_seq (run_region rfl (oy rfl (ex_eql rfl rfl rfl) (oM rfl (ops_nil (at_then (run_cond (b := (t11.1 == 1)) rfl (fun hb51 => ?_) (fun hb51 => ?_)))))))
    ·replace ho27 := cond_t hb51 ho27
     obtain ⟨t13, h52, ho27⟩ := bind_some ho27
     obtain ⟨e53, ho27⟩ := chk_some ho27
     refine run_region rfl (oM rfl (oM rfl (oz rfl (does_lit (e := 2) (cs := [nI (-1), nI 1000]) (xs := ([(-1), 1000] : List Int)) kInt rfl rfl (fun _ => by kernel_rfl) rfl rfl (fun _ _ h => by have h' : _ = [] := h; subst h'; exact (Elems.cons (d := kInt) (x := (-1)) (f := []) ⟨rfl, rfl⟩ (Elems.cons (d := kInt) (x := 1000) (f := []) ⟨rfl, rfl⟩ .nil))) HM.emp) ?_)))
     rintro v54 w55 HM
     replace HM := HM.fr1 1 rfl
     obtain ⟨F56, hF57, hFn58, hFl59, HMh60, hcl61⟩ := HM.hideN 1 rfl
     refine oz rfl (does_callk rfl callok15 rfl (spec_l1Pick.calls (x0 := (⟨x0.fCode, t11.2⟩ : l1Src)) (x1 := ([(-1), 1000] : List Int)) (hide_olds _ _) hF57 hFn58 hFl59 (HMh60.rdo hwo hp0_0) (HMh60.own_rd 0 rfl) h52)) ?_
     rintro _ w62 ⟨rfl, hn⟩
     replace HM := hcl61 _ _ _ rfl hn
     refine oy rfl (ex_indexAddr (d := kCoin) rfl rfl rfl U24 tsz70 (HM.own_rd 2 rfl) (idx_lo e53) (idx_hi e53)) (oy rfl (ex_fieldAddr (off' := so u24 + ((0 : Int)).toNat * 8 + 6) rfl rfl U70 rfl tsz2 rfl) ?_)
     replace HM := HM.fr1 2 rfl
     refine odS rfl rfl rfl (does_setField (fo := 6) (vs := [(nI t13.1)]) (y := (⟨(gt t10.1 (0 : Int)).fRef, (gt t10.1 (0 : Int)).fOut, t13.1, (gt t10.1 (0 : Int)).fMined⟩ : Coin)) kCoin rfl rfl rfl rfl rfl tsz2 (Ones.int Ones.nil) rfl rfl (idx_nat e53) (fun _ _ _ h => by rw [← gt_eq (idx_nat e53)] at h; obtain ⟨_, rfl, h2⟩ := h; exact ⟨_, rfl, h2⟩) HM) ?_
     rintro w63 HM
     refine ops_nil (at_block ?_)
     replace HM := ((HM.fro).frd 2 rfl).fr1 1 rfl
     exact at_mid ⟨_, _, _, (sj ho27), rfl, HM⟩ (Sub.of rfl)
    ·replace ho27 := cond_f hb51 ho27
     refine run_seq (run_region rfl (oy rfl (ex_eql rfl rfl rfl) (oM rfl (ops_nil (at_then (run_cond (b := (t11.1 == 2)) rfl (fun hb64 => ?_) (fun hb64 => ?_)))))))
     ·replace ho27 := cond_t hb64 ho27
      obtain ⟨e65, ho27⟩ := chk_some ho27
      refine run_region rfl (oM rfl (oy rfl (ex_indexAddr (d := kCoin) rfl rfl rfl U24 tsz70 (HM.own_rd 1 rfl) (idx_lo e65) (idx_hi e65)) (oy rfl (ex_fieldAddr (off' := so u24 + ((0 : Int)).toNat * 8 + 2) rfl rfl U70 rfl tsz68 rfl) (oy rfl (ex_fieldAddr (off' := so u24 + ((0 : Int)).toNat * 8 + 2) rfl rfl U68 rfl tsz2 rfl) ?_))))
      replace HM := HM.fr1 1 rfl
      refine odS rfl rfl rfl (does_setField (fo := 2) (vs := [(nI 0)]) (y := (⟨(gt t10.1 (0 : Int)).fRef, (⟨0, (gt t10.1 (0 : Int)).fOut.fRule⟩ : Out), (gt t10.1 (0 : Int)).fHeight, (gt t10.1 (0 : Int)).fMined⟩ : Coin)) kCoin rfl rfl rfl rfl rfl tsz2 (Ones.int Ones.nil) rfl rfl (idx_nat e65) (fun _ _ _ h => by rw [← gt_eq (idx_nat e65)] at h; obtain ⟨_, rfl, h2⟩ := h; exact ⟨_, rfl, h2⟩) HM) ?_
      rintro w66 HM
      refine ops_nil (at_block ?_)
      replace HM := (HM.fro).fr1 1 rfl
      exact at_mid ⟨_, _, _, (sj ho27), rfl, HM⟩ (Sub.of rfl)
     ·replace ho27 := cond_f hb64 ho27
      refine run_seq (run_region rfl (oy rfl (ex_eql rfl rfl rfl) (oM rfl (ops_nil (at_then (run_cond (b := (t11.1 == 3)) rfl (fun hb67 => ?_) (fun hb67 => ?_)))))))
      ·replace ho27 := cond_t hb67 ho27
       obtain ⟨e68, ho27⟩ := chk_some ho27
       obtain ⟨e69, ho27⟩ := chk_some ho27
       refine run_region rfl (oM rfl (oM rfl (oy rfl (ex_indexAddr (d := kCoin) rfl rfl rfl U24 tsz70 (HM.own_rd 1 rfl) (idx_lo e68) (idx_hi e68)) ?_)))
       replace HM := HM.fr1 1 rfl
       obtain ⟨u70, hc71, HM⟩ := HM.open1 e68 rfl
       refine oy rfl (ldN rfl rfl U70 rfl tsz70 (hc71.subL 0 8 rfl) rfl) (oz rfl (does_litRaw (e := 70) (cs := [nI ((gt t10.1 (0 : Int)).fRef.fTx), nI ((gt t10.1 (0 : Int)).fRef.fAt), nI ((gt t10.1 (0 : Int)).fOut.fValue), u70, nI ((gt t10.1 (0 : Int)).fOut.fRule.fNeed), nI ((gt t10.1 (0 : Int)).fOut.fRule.fAfter), nI ((gt t10.1 (0 : Int)).fHeight), .bool ((gt t10.1 (0 : Int)).fMined)]) rfl rfl (fun _ => by kernel_rfl) HM) ?_)
       rintro _ w72 ⟨b73, rfl, HM⟩
       replace HM := ((HM.fr1 2 rfl).fr1 2 rfl).fr1 2 rfl
       refine oz rfl (does_appSelf (sz := 8) (enc := fun (x : Coin) (v : Value) => [nI x.fRef.fTx, nI x.fRef.fAt, nI x.fOut.fValue, v, nI x.fOut.fRule.fNeed, nI x.fOut.fRule.fAfter, nI x.fHeight, .bool x.fMined]) (inner := fun x => x.fOut.fRule.fKeys) (d := kInt) (i := (0 : Int)) (a := gt t10.1 (0 : Int)) rfl rfl rfl U24 tsz70 tby70 tz70 rfl rfl (leB_le e69) e68 rfl HM) ?_
       rintro v74 w75 HM
       refine oM rfl (ops_nil (at_block ?_))
       replace HM := HM.fr1 1 rfl
       exact at_mid ⟨_, _, _, (sj ho27), rfl, HM⟩ (Sub.of rfl)
      ·replace ho27 := cond_f hb67 ho27
       refine run_skip (at_block ?_)
       replace HM := HM.fr1 1 rfl
       replace HM := (HM.fro).fr1 1 rfl
       exact at_mid ⟨_, _, _, (sj ho27), rfl, HM⟩ (Sub.of rfl)
  ·replace ho27 := cond_f hb29 ho27
   refine run_skip ?_
   replace HM := (HM.fro).fr1 1 rfl
   exact at_mid ⟨_, _, _, (sj ho27), rfl, HM⟩ (Sub.of rfl)
 ·rintro _ w76 ⟨a14, v28, a15, rfl, rfl, HM⟩
  replace H := cur2_mk H
  refine run_seq (run_seq ?_)
  obtain ⟨t16, h77, H⟩ := bind_some H
  refine run_region rfl (oM rfl ?_)
  obtain ⟨F78, hF79, hFn80, hFl81, HMh82, hcl83⟩ := HM.hideN 1 rfl
  refine oz rfl (does_callk rfl callok75 rfl (spec_l1Chance.calls (x0 := (⟨x0.fCode, a14⟩ : l1Src)) (x1 := 40) (hide_olds _ _) hF79 hFn80 hFl81 (HMh82.rdo hwo hp0_0) h77)) ?_
  rintro _ w84 ⟨rfl, hn⟩
  replace HM := hcl83 _ _ _ rfl hn
  refine ops_nil (at_then (run_cond (b := t16.1) rfl (fun hb85 => ?_) (fun hb85 => ?_)))
  ·replace H := cond_t hb85 H
   obtain ⟨e86, H⟩ := chk_some H
   obtain ⟨e87, H⟩ := chk_some H
   refine run_region rfl (oz rfl (does_make (x := (⟨(⟨0, 0⟩ : Ref), (⟨0, (⟨[], 0, 0⟩ : Rule)⟩ : Out), 0, false⟩ : Coin)) kCoin rfl rfl rfl U24 tsz70 tby70 tz70 rfl rfl (fun _ => ⟨.slice none 0 0, rfl, OwS.nil _ _ _ _⟩) (of_decide_eq_true e86) rfl (leB_le e87) rfl HM) ?_)
   rintro v88 w89 HM
   refine oM rfl (ops_nil (at_then (run_seq (run_region rfl (oM rfl (oM rfl (ops_nil (at_then (run_ret ?_)))))))))
   replace HM := (HM.fro).frd 2 rfl
   cases H
   exact at_ret1 rfl rfl ⟨_, rfl, _, rfl, HM⟩
  ·replace H := cond_f hb85 H
   refine run_skip (at_then (run_seq (run_region rfl (oM rfl (oM rfl (ops_nil (at_then (run_ret ?_))))))))
   replace HM := HM.fr1 1 rfl
   cases H
   exact at_ret1 rfl rfl ⟨_, rfl, _, rfl, HM⟩

def spec_l2Bent.f (k : Nat) (x0 : l1Src) : Option (Rule × Int) := ((spec_l2Draw.f k x0).bind fun t10 => ((spec_l1Next.f k (⟨x0.fCode, t10.2⟩ : l1Src) 10).bind fun t11 => (bif (t11.1 == 0) then ((spec_l1Pick.f k (⟨x0.fCode, t11.2⟩ : l1Src) ([0, 1, 1000] : List Int)).bind fun t12 => (chk (leB ((t10.1.fKeys.length + ([t12.1] : List Int).length) * 8) 140737488355328) (some ((⟨t10.1.fKeys ++ ([t12.1] : List Int), t10.1.fNeed, t10.1.fAfter⟩ : Rule), t12.2)))) else (bif (t11.1 == 1) then ((spec_l1Pick.f k (⟨x0.fCode, t11.2⟩ : l1Src) ([0, 4, 2] : List Int)).bind fun t13 => some ((⟨t10.1.fKeys, t13.1, t10.1.fAfter⟩ : Rule), t13.2)) else (bif (t11.1 == 2) then ((spec_l1Pick.f k (⟨x0.fCode, t11.2⟩ : l1Src) ([(-1), 999, 1000] : List Int)).bind fun t14 => some ((⟨t10.1.fKeys, t10.1.fNeed, t14.1⟩ : Rule), t14.2)) else (bif (t11.1 == 3) then some ((⟨([] : List Int), t10.1.fNeed, t10.1.fAfter⟩ : Rule), t11.2) else some ((⟨t10.1.fKeys, t10.1.fNeed, t10.1.fAfter⟩ : Rule), t11.2)))))))
theorem spec_l2Bent.calls {k : Nat} {x0 : l1Src} {b0 : Nat} {p0_0 : Value} {w wo : World} {X : List Nat} (hwo : Olds wo w X) (hX : Hold w [box b0 78 [p0_0, nI x0.fAt]] X) (hXn : X.Nodup) (hXl : ∀ b ∈ X, b < w.heap.size) (hp0_0 : RdS kU8 wo p0_0 x0.fCode) {r : Rule × Int} (H : spec_l2Bent.f k x0 = some r) :
  Calls Tryz.prog 79 ([pA b0 0] : List Value).toArray w (fun e w_ => ∃ v, e = .returned v ∧ ∃ u0 : Value, v = (.agg #[u0, nI r.1.fNeed, nI r.1.fAfter]) ∧ Mem w X w_ [own kInt 2 u0 r.1.fKeys, box b0 78 [p0_0, nI r.2]]) := by
 have HM := Mem.startX hX hXn hXl
 refine calls_run (N := 34) Tryz.func79 rfl rfl rfl rfl ?_
 unfold spec_l2Bent.f at H
 refine run_seq (run_region rfl (oz rfl (does_alloc (cs := [.slice none 0 0, nI 0, nI 0]) rfl tz66 rfl HM) ?_))
 rintro _ w15 ⟨b16, rfl, HM⟩
 refine ops_nil (at_then (run_seq ?_))
 obtain ⟨t10, h17, H⟩ := bind_some H
 refine run_region rfl (oM rfl ?_)
 replace HM := HM.fr1 1 rfl
 obtain ⟨F18, hF19, hFn20, hFl21, HMh22, hcl23⟩ := HM.hideN 1 rfl
 refine oz rfl (does_callk rfl callok106 rfl (spec_l2Draw.calls (x0 := x0) (hide_olds _ _) hF19 hFn20 hFl21 (HMh22.rdo hwo hp0_0) h17)) ?_
 rintro _ w24 ⟨u25, rfl, hn⟩
 replace HM := hcl23 _ _ _ rfl hn
 refine oz rfl (does_alloc (cs := [.slice none 0 0, nI 0, nI 0]) rfl tz66 rfl HM) ?_
 rintro _ w26 ⟨b27, rfl, HM⟩
 refine odS rfl rfl rfl (does_store (vs := [u25, nI t10.1.fNeed, nI t10.1.fAfter]) (cs' := [u25, nI t10.1.fNeed, nI t10.1.fAfter]) rfl rfl rfl rfl tsz66 (Ones.rd (HM.own_rd 1 rfl) (Ones.int (Ones.int Ones.nil))) rfl rfl HM) ?_
 rintro w28 HM
 refine ops_nil (at_then (run_seq (run_seq ?_)))
 obtain ⟨t11, h29, H⟩ := bind_some H
 refine run_region rfl (oM rfl ?_)
 replace HM := HM.fr1 2 rfl
 obtain ⟨F30, hF31, hFn32, hFl33, HMh34, hcl35⟩ := HM.hideN 1 rfl
 refine oz rfl (does_callk rfl callok16 rfl (spec_l1Next.calls (x0 := (⟨x0.fCode, t10.2⟩ : l1Src)) (x1 := 10) (hide_olds _ _) hF31 hFn32 hFl33 (HMh34.rdo hwo hp0_0) h29)) ?_
 rintro _ w36 ⟨rfl, hn⟩
 replace HM := hcl35 _ _ _ rfl hn
 refine ops_nil (at_then (run_block (run_seq (run_region rfl (oy rfl (ex_eql rfl rfl rfl) (oM rfl (ops_nil (at_then (run_cond (b := (t11.1 == 0)) rfl (fun hb37 => ?_) (fun hb37 => ?_))))))))))
 ·replace H := cond_t hb37 H
  obtain ⟨t12, h38, H⟩ := bind_some H
  obtain ⟨e39, H⟩ := chk_some H
  refine run_meet (fun ρ_ w_ => ∃ v40 : Value, ρ_ = [(2, pA b16 0), (3, pA b27 0)] ∧ Mem w X w_ [box b0 78 [p0_0, nI t12.2], box b16 66 [.slice none 0 0, nI 0, nI 0], box b27 66 [v40, nI t10.1.fNeed, nI t10.1.fAfter], own kInt 2 v40 (t10.1.fKeys ++ ([t12.1] : List Int))]) ?_ ?_
  ·replace HM := ((HM.fr1 2 rfl).fr1 2 rfl).fr1 2 rfl
   refine run_draw (fun w_ => Mem w X w_ [box b16 66 [.slice none 0 0, nI 0, nI 0]]) mixed rfl (l := #[false, false, false, false, false, false, false, false, false]) rfl ?_
   replace HM := HM.grow (fr_drew _)
   have hS := HM.sufN 3 rfl
   refine drw_cut2 (l' := #[true, true, true, true, true, true, false, false, false]) (f' := 3) (fun (v41 : Value) => fun (v42 : Value) => [(2, pA b16 0), (3, pA b27 0), (11, u25), (15, v42)]) (fun (v41 : Value) => fun (v42 : Value) => fun w_ => Mem w X w_ [own kInt 2 v42 ([t12.1] : List Int), box b0 78 [p0_0, nI t12.2], own kInt 2 v41 ([0, 1, 1000] : List Int), box b27 66 [u25, nI t10.1.fNeed, nI t10.1.fAfter], own kInt 2 u25 t10.1.fKeys, box b16 66 [.slice none 0 0, nI 0, nI 0]]) ?_ (fun K43 => ?_)
   ·rintro v41 v42 w44 HM
    have hS := HM.sufN 5 rfl
    replace HM := HM.fr1 4 rfl
    refine drw_any [6] (by kernel_rfl) rfl (.cons ?_ .nil)
    refine br_does (l' := #[true, true, true, true, true, true, true, false, false]) rfl (guard_none rfl) rfl rfl (by kernel_rfl) (does_appendR kInt flat_plain rfl rfl rfl U58 tsz2 rfl tby2 tz2 rfl rfl (leB_le e39) (HM.own_rd 1 rfl) HM) ?_
    rintro v40 w45 HM
    have hS := HM.sufN 5 rfl
    refine ⟨hS, (dt 7 #[true, true, true, true, true, true, true, true, false] rfl rfl rfl rfl (by kernel_rfl) (ex_fieldAddr (off' := 0) rfl rfl U66 rfl tsz58 rfl) hS ?_)⟩
    replace HM := HM.fr1 4 rfl
    refine drw_any [8] (by kernel_rfl) rfl (.cons ?_ .nil)
    refine br_doesS (l' := #[true, true, true, true, true, true, true, true, true]) rfl (guard_none rfl) rfl (by kernel_rfl) (does_store (vs := [v40]) (cs' := [v40, nI t10.1.fNeed, nI t10.1.fAfter]) rfl rfl rfl (rd_cells (HM.own_rd 1 rfl)) tsz58 (Ones.rd (HM.own_rd 1 rfl) Ones.nil) rfl rfl HM) ?_
    rintro w46 HM
    have hS := HM.sufN 5 rfl
    refine ⟨hS, (drw_done (by kernel_rfl) ?_)⟩
    replace HM := ((HM.frd 2 rfl).frd 3 rfl).fr1 1 rfl
    replace HM := ((HM.fr1 1 rfl).fr1 3 rfl).fr1 3 rfl
    exact at_meet _ ⟨_, rfl, HM⟩ (Sub.of rfl)
   refine drw_cut1 (l' := #[true, true, true, true, true, false, false, false, false]) (f' := 4) (fun (v41 : Value) => [(2, pA b16 0), (3, pA b27 0), (11, u25), (14, nI t12.1)]) (fun (v41 : Value) => fun w_ => Mem w X w_ [box b0 78 [p0_0, nI t12.2], own kInt 2 v41 ([0, 1, 1000] : List Int), box b27 66 [u25, nI t10.1.fNeed, nI t10.1.fAfter], own kInt 2 u25 t10.1.fKeys, box b16 66 [.slice none 0 0, nI 0, nI 0]]) ?_ (fun K47 => ?_)
   ·rintro v41 w48 HM
    have hS := HM.sufN 4 rfl
    refine drw_any [5] (by kernel_rfl) rfl (.cons ?_ .nil)
    refine br_does (l' := #[true, true, true, true, true, true, false, false, false]) rfl (guard_none rfl) rfl rfl (by kernel_rfl) (does_lit (e := 2) (cs := [nI t12.1]) (xs := ([t12.1] : List Int)) kInt rfl rfl (fun _ => by kernel_rfl) rfl rfl (fun _ _ h => by have h' : _ = [] := h; subst h'; exact (Elems.cons (d := kInt) (x := t12.1) (f := []) ⟨rfl, rfl⟩ .nil)) HM.emp) ?_
    rintro v42 w49 HM
    have hS := HM.sufN 5 rfl
    exact ⟨hS, (drw_sub (K43 v41 v42 _ HM) (Sub.of rfl))⟩
   refine drw_cut1 (l' := #[true, true, true, true, false, false, false, false, false]) (f' := 5) (fun (v41 : Value) => [(2, pA b16 0), (3, pA b27 0), (12, pA b0 0), (11, u25), (13, v41)]) (fun (v41 : Value) => fun w_ => Mem w X w_ [own kInt 2 v41 ([0, 1, 1000] : List Int), box b0 78 [p0_0, nI t11.2], box b27 66 [u25, nI t10.1.fNeed, nI t10.1.fAfter], own kInt 2 u25 t10.1.fKeys, box b16 66 [.slice none 0 0, nI 0, nI 0]]) ?_ (fun K50 => ?_)
   ·rintro v41 w51 HM
    have hS := HM.sufN 4 rfl
    replace HM := HM.fr1 1 rfl
    obtain ⟨F52, hF53, hFn54, hFl55, HMh56, hcl57⟩ := HM.hideN 1 rfl
    refine drw_any [4] (by kernel_rfl) rfl (.cons ?_ .nil)
    refine br_does (l' := #[true, true, true, true, true, false, false, false, false]) rfl (guard_none rfl) rfl rfl (by kernel_rfl) (does_callk rfl callok15 rfl (spec_l1Pick.calls (x0 := (⟨x0.fCode, t11.2⟩ : l1Src)) (x1 := ([0, 1, 1000] : List Int)) (hide_olds _ _) hF53 hFn54 hFl55 (HMh56.rdo hwo hp0_0) (HMh56.own_rd 0 rfl) h38)) ?_
    rintro _ w58 ⟨rfl, hn⟩
    replace HM := hcl57 _ _ _ rfl hn
    have hS := HM.sufN 4 rfl
    exact ⟨hS, (drw_sub (K47 v41 _ HM) (Sub.of rfl))⟩
   refine dt 0 #[true, false, false, false, false, false, false, false, false] rfl rfl rfl rfl (by kernel_rfl) (ex_fieldAddr (off' := 0) rfl rfl U66 rfl tsz58 rfl) hS ?_
   refine dt 2 #[true, false, true, false, false, false, false, false, false] rfl rfl rfl rfl (by kernel_rfl) (ex_move rfl rfl) hS ?_
   refine drw_any [1, 3] (by kernel_rfl) rfl (.cons ?_ (.cons ?_ .nil))
   ·refine br_does (l' := #[true, true, true, false, false, false, false, false, false]) rfl (guard_none rfl) rfl rfl (by kernel_rfl) (does_ex' (ex_load1 rfl rfl U58 rfl ((HM.box_at 1 rfl) 0 _ rfl))) ?_
    rintro _ _ ⟨rfl, rfl⟩
    refine ⟨hS, (drw_any [3] (by kernel_rfl) rfl (.cons ?_ .nil))⟩
    refine br_does (l' := #[true, true, true, true, false, false, false, false, false]) rfl (guard_none rfl) rfl rfl (by kernel_rfl) (does_lit (e := 2) (cs := [nI 0, nI 1, nI 1000]) (xs := ([0, 1, 1000] : List Int)) kInt rfl rfl (fun _ => by kernel_rfl) rfl rfl (fun _ _ h => by have h' : _ = [] := h; subst h'; exact (Elems.cons (d := kInt) (x := 0) (f := []) ⟨rfl, rfl⟩ (Elems.cons (d := kInt) (x := 1) (f := []) ⟨rfl, rfl⟩ (Elems.cons (d := kInt) (x := 1000) (f := []) ⟨rfl, rfl⟩ .nil)))) HM.emp) ?_
    rintro v41 w59 HM
    have hS := HM.sufN 4 rfl
    exact ⟨hS, (drw_sub (K50 v41 _ HM) (Sub.of rfl))⟩
   ·refine br_does (l' := #[true, false, true, true, false, false, false, false, false]) rfl (guard_none rfl) rfl rfl (by kernel_rfl) (does_lit (e := 2) (cs := [nI 0, nI 1, nI 1000]) (xs := ([0, 1, 1000] : List Int)) kInt rfl rfl (fun _ => by kernel_rfl) rfl rfl (fun _ _ h => by have h' : _ = [] := h; subst h'; exact (Elems.cons (d := kInt) (x := 0) (f := []) ⟨rfl, rfl⟩ (Elems.cons (d := kInt) (x := 1) (f := []) ⟨rfl, rfl⟩ (Elems.cons (d := kInt) (x := 1000) (f := []) ⟨rfl, rfl⟩ .nil)))) HM.emp) ?_
    rintro v41 w60 HM
    have hS := HM.sufN 4 rfl
    refine ⟨hS, (drw_any [1, 4] (by kernel_rfl) rfl (.cons ?_ (.cons ?_ .nil)))⟩
    ·refine br_does (l' := #[true, true, true, true, false, false, false, false, false]) rfl (guard_none rfl) rfl rfl (by kernel_rfl) (does_ex' (ex_load1 rfl rfl U58 rfl ((HM.box_at 2 rfl) 0 _ rfl))) ?_
     rintro _ _ ⟨rfl, rfl⟩
     exact ⟨hS, (drw_sub (K50 v41 _ HM) (Sub.of rfl))⟩
    ·replace HM := HM.fr1 1 rfl
     obtain ⟨F52, hF53, hFn54, hFl55, HMh56, hcl57⟩ := HM.hideN 1 rfl
     refine br_does (l' := #[true, false, true, true, true, false, false, false, false]) rfl (guard_none rfl) rfl rfl (by kernel_rfl) (does_callk rfl callok15 rfl (spec_l1Pick.calls (x0 := (⟨x0.fCode, t11.2⟩ : l1Src)) (x1 := ([0, 1, 1000] : List Int)) (hide_olds _ _) hF53 hFn54 hFl55 (HMh56.rdo hwo hp0_0) (HMh56.own_rd 0 rfl) h38)) ?_
     rintro _ w61 ⟨rfl, hn⟩
     replace HM := hcl57 _ _ _ rfl hn
     have hS := HM.sufN 4 rfl
     refine ⟨hS, (drw_any [1, 5] (by kernel_rfl) rfl (.cons ?_ (.cons ?_ .nil)))⟩
     ·refine br_does (l' := #[true, true, true, true, true, false, false, false, false]) rfl (guard_none rfl) rfl rfl (by kernel_rfl) (does_ex' (ex_load1 rfl rfl U58 rfl ((HM.box_at 2 rfl) 0 _ rfl))) ?_
      rintro _ _ ⟨rfl, rfl⟩
      exact ⟨hS, (drw_sub (K47 v41 _ HM) (Sub.of rfl))⟩
     ·refine br_does (l' := #[true, false, true, true, true, true, false, false, false]) rfl (guard_none rfl) rfl rfl (by kernel_rfl) (does_lit (e := 2) (cs := [nI t12.1]) (xs := ([t12.1] : List Int)) kInt rfl rfl (fun _ => by kernel_rfl) rfl rfl (fun _ _ h => by have h' : _ = [] := h; subst h'; exact (Elems.cons (d := kInt) (x := t12.1) (f := []) ⟨rfl, rfl⟩ .nil)) HM.emp) ?_
      rintro v42 w62 HM
      have hS := HM.sufN 5 rfl
      refine ⟨hS, (drw_any [1] (by kernel_rfl) rfl (.cons ?_ .nil))⟩
      refine br_does (l' := #[true, true, true, true, true, true, false, false, false]) rfl (guard_none rfl) rfl rfl (by kernel_rfl) (does_ex' (ex_load1 rfl rfl U58 rfl ((HM.box_at 3 rfl) 0 _ rfl))) ?_
      rintro _ _ ⟨rfl, rfl⟩
      exact ⟨hS, (drw_sub (K43 v41 v42 _ HM) (Sub.of rfl))⟩
  ·rintro _ w63 ⟨v40, rfl, HM⟩
   refine at_block (at_then (run_seq (run_region rfl (oy rfl (ldN rfl rfl U66 rfl tsz66 ((HM.box_at 2 rfl).subL 0 3 rfl) rfl) ?_))))
   replace HM := HM.fr1 1 rfl
   refine odS rfl rfl rfl (does_store (vs := [v40, nI t10.1.fNeed, nI t10.1.fAfter]) (cs' := [v40, nI t10.1.fNeed, nI t10.1.fAfter]) rfl rfl rfl rfl tsz66 (Ones.rd (HM.own_rd 3 rfl) (Ones.int (Ones.int Ones.nil))) rfl rfl HM) ?_
   rintro w64 HM
   refine ops_nil (at_then (run_ret ?_))
   replace HM := ((HM.frd 2 rfl).fr1 1 rfl).fr1 2 rfl
   replace HM := HM.fr1 2 rfl
   have hcb0 := HM.box_at 0 rfl
   replace HM := HM.frd 0 rfl
   cases H
   exact at_retN rfl rfl U66 rfl tsz66 rfl hcb0 ⟨_, rfl, _, rfl, HM⟩
 ·replace H := cond_f hb37 H
  refine run_seq (run_region rfl (oy rfl (ex_eql rfl rfl rfl) (oM rfl (ops_nil (at_then (run_cond (b := (t11.1 == 1)) rfl (fun hb65 => ?_) (fun hb65 => ?_)))))))
  ·replace H := cond_t hb65 H
   obtain ⟨t13, h66, H⟩ := bind_some H
   refine run_region rfl (oM rfl (oz rfl (does_lit (e := 2) (cs := [nI 0, nI 4, nI 2]) (xs := ([0, 4, 2] : List Int)) kInt rfl rfl (fun _ => by kernel_rfl) rfl rfl (fun _ _ h => by have h' : _ = [] := h; subst h'; exact (Elems.cons (d := kInt) (x := 0) (f := []) ⟨rfl, rfl⟩ (Elems.cons (d := kInt) (x := 4) (f := []) ⟨rfl, rfl⟩ (Elems.cons (d := kInt) (x := 2) (f := []) ⟨rfl, rfl⟩ .nil)))) HM.emp) ?_))
   rintro v67 w68 HM
   replace HM := HM.fr1 1 rfl
   obtain ⟨F69, hF70, hFn71, hFl72, HMh73, hcl74⟩ := HM.hideN 1 rfl
   refine oz rfl (does_callk rfl callok15 rfl (spec_l1Pick.calls (x0 := (⟨x0.fCode, t11.2⟩ : l1Src)) (x1 := ([0, 4, 2] : List Int)) (hide_olds _ _) hF70 hFn71 hFl72 (HMh73.rdo hwo hp0_0) (HMh73.own_rd 0 rfl) h66)) ?_
   rintro _ w75 ⟨rfl, hn⟩
   replace HM := hcl74 _ _ _ rfl hn
   refine oy rfl (ex_fieldAddr (off' := 1) rfl rfl U66 rfl tsz2 rfl) ?_
   replace HM := HM.fr1 2 rfl
   refine odS rfl rfl rfl (does_store (vs := [nI t13.1]) (cs' := [u25, nI t13.1, nI t10.1.fAfter]) rfl rfl rfl rfl tsz2 (Ones.int Ones.nil) rfl rfl HM) ?_
   rintro w76 HM
   refine ops_nil (at_block (at_then (run_seq (run_region rfl (oy rfl (ldN rfl rfl U66 rfl tsz66 ((HM.box_at 0 rfl).subL 0 3 rfl) rfl) ?_)))))
   replace HM := HM.fr1 4 rfl
   refine odS rfl rfl rfl (does_store (vs := [u25, nI t13.1, nI t10.1.fAfter]) (cs' := [u25, nI t13.1, nI t10.1.fAfter]) rfl rfl rfl rfl tsz66 (Ones.rd (HM.own_rd 4 rfl) (Ones.int (Ones.int Ones.nil))) rfl rfl HM) ?_
   rintro w77 HM
   refine ops_nil (at_then (run_ret ?_))
   replace HM := ((HM.frd 1 rfl).frd 2 rfl).fr1 1 rfl
   replace HM := (HM.fr1 2 rfl).fr1 2 rfl
   have hcb0 := HM.box_at 0 rfl
   replace HM := HM.frd 0 rfl
   cases H
   exact at_retN rfl rfl U66 rfl tsz66 rfl hcb0 ⟨_, rfl, _, rfl, HM⟩
  ·replace H := cond_f hb65 H
   refine run_seq (run_region rfl (oy rfl (ex_eql rfl rfl rfl) (oM rfl (ops_nil (at_then (run_cond (b := (t11.1 == 2)) rfl (fun hb78 => ?_) (fun hb78 => ?_)))))))
   ·replace H := cond_t hb78 H
    obtain ⟨t14, h79, H⟩ := bind_some H
    refine run_region rfl (oM rfl (oz rfl (does_lit (e := 2) (cs := [nI (-1), nI 999, nI 1000]) (xs := ([(-1), 999, 1000] : List Int)) kInt rfl rfl (fun _ => by kernel_rfl) rfl rfl (fun _ _ h => by have h' : _ = [] := h; subst h'; exact (Elems.cons (d := kInt) (x := (-1)) (f := []) ⟨rfl, rfl⟩ (Elems.cons (d := kInt) (x := 999) (f := []) ⟨rfl, rfl⟩ (Elems.cons (d := kInt) (x := 1000) (f := []) ⟨rfl, rfl⟩ .nil)))) HM.emp) ?_))
    rintro v80 w81 HM
    replace HM := HM.fr1 1 rfl
    obtain ⟨F82, hF83, hFn84, hFl85, HMh86, hcl87⟩ := HM.hideN 1 rfl
    refine oz rfl (does_callk rfl callok15 rfl (spec_l1Pick.calls (x0 := (⟨x0.fCode, t11.2⟩ : l1Src)) (x1 := ([(-1), 999, 1000] : List Int)) (hide_olds _ _) hF83 hFn84 hFl85 (HMh86.rdo hwo hp0_0) (HMh86.own_rd 0 rfl) h79)) ?_
    rintro _ w88 ⟨rfl, hn⟩
    replace HM := hcl87 _ _ _ rfl hn
    refine oy rfl (ex_fieldAddr (off' := 2) rfl rfl U66 rfl tsz2 rfl) ?_
    replace HM := HM.fr1 2 rfl
    refine odS rfl rfl rfl (does_store (vs := [nI t14.1]) (cs' := [u25, nI t10.1.fNeed, nI t14.1]) rfl rfl rfl rfl tsz2 (Ones.int Ones.nil) rfl rfl HM) ?_
    rintro w89 HM
    refine ops_nil (at_block (at_then (run_seq (run_region rfl (oy rfl (ldN rfl rfl U66 rfl tsz66 ((HM.box_at 0 rfl).subL 0 3 rfl) rfl) ?_)))))
    replace HM := HM.fr1 4 rfl
    refine odS rfl rfl rfl (does_store (vs := [u25, nI t10.1.fNeed, nI t14.1]) (cs' := [u25, nI t10.1.fNeed, nI t14.1]) rfl rfl rfl rfl tsz66 (Ones.rd (HM.own_rd 4 rfl) (Ones.int (Ones.int Ones.nil))) rfl rfl HM) ?_
    rintro w90 HM
    refine ops_nil (at_then (run_ret ?_))
    replace HM := ((HM.frd 1 rfl).frd 2 rfl).fr1 1 rfl
    replace HM := (HM.fr1 2 rfl).fr1 2 rfl
    have hcb0 := HM.box_at 0 rfl
    replace HM := HM.frd 0 rfl
    cases H
    exact at_retN rfl rfl U66 rfl tsz66 rfl hcb0 ⟨_, rfl, _, rfl, HM⟩
   ·replace H := cond_f hb78 H
    refine run_seq (run_region rfl (oy rfl (ex_eql rfl rfl rfl) (oM rfl (ops_nil (at_then (run_cond (b := (t11.1 == 3)) rfl (fun hb91 => ?_) (fun hb91 => ?_)))))))
    ·replace H := cond_t hb91 H
     refine run_region rfl (oy rfl (ex_fieldAddr (off' := 0) rfl rfl U66 rfl tsz58 rfl) ?_)
     replace HM := HM.fr1 1 rfl
     refine odS rfl rfl rfl (does_store (vs := [.slice none 0 0]) (cs' := [.slice none 0 0, nI t10.1.fNeed, nI t10.1.fAfter]) rfl rfl rfl rfl tsz58 (Ones.sl Ones.nil) rfl rfl HM) ?_
     rintro w92 HM
     refine ops_nil (at_block (at_then (run_seq (run_region rfl (oy rfl (ldN rfl rfl U66 rfl tsz66 ((HM.box_at 0 rfl).subL 0 3 rfl) rfl) ?_)))))
     replace HM := HM.fr1 3 rfl
     refine odS rfl rfl rfl (does_store (vs := [.slice none 0 0, nI t10.1.fNeed, nI t10.1.fAfter]) (cs' := [.slice none 0 0, nI t10.1.fNeed, nI t10.1.fAfter]) rfl rfl rfl rfl tsz66 (Ones.sl (Ones.int (Ones.int Ones.nil))) rfl rfl HM) ?_
     rintro w93 HM
     refine ops_nil (at_then (run_ret ?_))
     replace HM := ((HM.empty kInt 2 none).frd 2 rfl).frd 3 rfl
     replace HM := ((HM.fr1 2 rfl).fr1 1 rfl).fr1 2 rfl
     have hcb0 := HM.box_at 0 rfl
     replace HM := HM.frd 0 rfl
     cases H
     exact at_retN rfl rfl U66 rfl tsz66 rfl hcb0 ⟨_, rfl, _, rfl, HM⟩
    ·replace H := cond_f hb91 H
     refine run_skip (at_block (at_then (run_seq (run_region rfl (oy rfl (ldN rfl rfl U66 rfl tsz66 ((HM.box_at 1 rfl).subL 0 3 rfl) rfl) ?_)))))
     replace HM := HM.fr1 3 rfl
     refine odS rfl rfl rfl (does_store (vs := [u25, nI t10.1.fNeed, nI t10.1.fAfter]) (cs' := [u25, nI t10.1.fNeed, nI t10.1.fAfter]) rfl rfl rfl rfl tsz66 (Ones.rd (HM.own_rd 3 rfl) (Ones.int (Ones.int Ones.nil))) rfl rfl HM) ?_
     rintro w94 HM
     refine ops_nil (at_then (run_ret ?_))
     replace HM := ((HM.frd 2 rfl).fr1 1 rfl).fr1 2 rfl
     replace HM := HM.fr1 2 rfl
     have hcb0 := HM.box_at 0 rfl
     replace HM := HM.frd 0 rfl
     cases H
     exact at_retN rfl rfl U66 rfl tsz66 rfl hcb0 ⟨_, rfl, _, rfl, HM⟩

def spec_l3Bent.f (k : Nat) (x0 : l1Src) : Option (Tx × Int) := ((spec_l3Draw.f k x0).bind fun t10 => ((spec_l1Next.f k (⟨x0.fCode, t10.2⟩ : l1Src) 14).bind fun t11 => (bif (t11.1 == 0) then ((spec_l1Pick.f k (⟨x0.fCode, t11.2⟩ : l1Src) ([(-1), 3, 0, 1] : List Int)).bind fun t12 => some ((⟨t12.1, t10.1.fMember, t10.1.fIns, t10.1.fOuts⟩ : Tx), t12.2)) else (bif (t11.1 == 1) then ((spec_l1Pick.f k (⟨x0.fCode, t11.2⟩ : l1Src) ([0, 1000, 5] : List Int)).bind fun t13 => some ((⟨t10.1.fKind, t13.1, t10.1.fIns, t10.1.fOuts⟩ : Tx), t13.2)) else (bif (t11.1 == 2) then ((spec_l1Pick.f k (⟨x0.fCode, t11.2⟩ : l1Src) ([0, 61, 1] : List Int)).bind fun t14 => ((spec_l1Pick.f k (⟨x0.fCode, t14.2⟩ : l1Src) ([0, 4] : List Int)).bind fun t15 => (chk (leB ((t10.1.fIns.length + ([(⟨t14.1, t15.1⟩ : Ref)] : List Ref).length) * 16) 140737488355328) (some ((⟨t10.1.fKind, t10.1.fMember, t10.1.fIns ++ ([(⟨t14.1, t15.1⟩ : Ref)] : List Ref), t10.1.fOuts⟩ : Tx), t15.2))))) else (bif (t11.1 == 3) then ((spec_l1Pick.f k (⟨x0.fCode, t11.2⟩ : l1Src) ([0, 1, 1000001, 99] : List Int)).bind fun t16 => (chk (idxOk (0 : Int) t10.1.fOuts.length) (some ((⟨t10.1.fKind, t10.1.fMember, t10.1.fIns, t10.1.fOuts.set ((0 : Int)).toNat (⟨t16.1, (gt t10.1.fOuts (0 : Int)).fRule⟩ : Out)⟩ : Tx), t16.2)))) else (bif (t11.1 == 4) then ((spec_l2Bent.f k (⟨x0.fCode, t11.2⟩ : l1Src)).bind fun t17 => (chk (idxOk (0 : Int) t10.1.fOuts.length) (some ((⟨t10.1.fKind, t10.1.fMember, t10.1.fIns, t10.1.fOuts.set ((0 : Int)).toNat (⟨(gt t10.1.fOuts (0 : Int)).fValue, (⟨t17.1.fKeys, t17.1.fNeed, t17.1.fAfter⟩ : Rule)⟩ : Out)⟩ : Tx), t17.2)))) else (bif (t11.1 == 5) then some ((⟨t10.1.fKind, t10.1.fMember, ([] : List Ref), t10.1.fOuts⟩ : Tx), t11.2) else (bif (t11.1 == 6) then (chk (decide (0 ≤ (5 : Int))) (chk (leB (((5 : Int)).toNat * 48) 281474976710656) (some ((⟨t10.1.fKind, t10.1.fMember, t10.1.fIns, List.replicate ((5 : Int)).toNat (⟨0, (⟨[], 0, 0⟩ : Rule)⟩ : Out)⟩ : Tx), t11.2)))) else some ((⟨t10.1.fKind, t10.1.fMember, t10.1.fIns, t10.1.fOuts⟩ : Tx), t11.2))))))))))
theorem spec_l3Bent.calls {k : Nat} {x0 : l1Src} {b0 : Nat} {p0_0 : Value} {w wo : World} {X : List Nat} (hwo : Olds wo w X) (hX : Hold w [box b0 78 [p0_0, nI x0.fAt]] X) (hXn : X.Nodup) (hXl : ∀ b ∈ X, b < w.heap.size) (hp0_0 : RdS kU8 wo p0_0 x0.fCode) {r : Tx × Int} (H : spec_l3Bent.f k x0 = some r) :
  Calls Tryz.prog 37 ([pA b0 0] : List Value).toArray w (fun e w_ => ∃ v, e = .returned v ∧ ∃ u0 : Value, ∃ u1 : Value, v = (.agg #[nI r.1.fKind, nI r.1.fMember, u0, u1]) ∧ Mem w X w_ [own kRef 38 u0 r.1.fIns, own kOut 68 u1 r.1.fOuts, box b0 78 [p0_0, nI r.2]]) := by
 have HM := Mem.startX hX hXn hXl
 refine calls_run (N := 59) Tryz.func37 rfl rfl rfl rfl ?_
 unfold spec_l3Bent.f at H
 refine run_seq (run_region rfl (oz rfl (does_alloc (cs := [nI 0, nI 0, .slice none 0 0, .slice none 0 0]) rfl tz28 rfl HM) ?_))
 rintro _ w18 ⟨b19, rfl, HM⟩
 refine ops_nil (at_then (run_seq ?_))
 obtain ⟨t10, h20, H⟩ := bind_some H
 refine run_region rfl (oM rfl ?_)
 replace HM := HM.fr1 1 rfl
 obtain ⟨F21, hF22, hFn23, hFl24, HMh25, hcl26⟩ := HM.hideN 1 rfl
 refine oz rfl (does_callk rfl callok78 rfl (spec_l3Draw.calls (x0 := x0) (hide_olds _ _) hF22 hFn23 hFl24 (HMh25.rdo hwo hp0_0) h20)) ?_
 rintro _ w27 ⟨u28, u29, rfl, hn⟩
 replace HM := hcl26 _ _ _ rfl hn
 refine oz rfl (does_alloc (cs := [nI 0, nI 0, .slice none 0 0, .slice none 0 0]) rfl tz28 rfl HM) ?_
 rintro _ w30 ⟨b31, rfl, HM⟩
 refine odS rfl rfl rfl (does_store (vs := [nI t10.1.fKind, nI t10.1.fMember, u28, u29]) (cs' := [nI t10.1.fKind, nI t10.1.fMember, u28, u29]) rfl rfl rfl rfl tsz28 (Ones.int (Ones.int (Ones.rd (HM.own_rd 1 rfl) (Ones.rd (HM.own_rd 2 rfl) Ones.nil)))) rfl rfl HM) ?_
 rintro w32 HM
 refine ops_nil (at_then (run_seq (run_seq ?_)))
 obtain ⟨t11, h33, H⟩ := bind_some H
 refine run_region rfl (oM rfl ?_)
 replace HM := HM.fr1 3 rfl
 obtain ⟨F34, hF35, hFn36, hFl37, HMh38, hcl39⟩ := HM.hideN 1 rfl
 refine oz rfl (does_callk rfl callok16 rfl (spec_l1Next.calls (x0 := (⟨x0.fCode, t10.2⟩ : l1Src)) (x1 := 14) (hide_olds _ _) hF35 hFn36 hFl37 (HMh38.rdo hwo hp0_0) h33)) ?_
 rintro _ w40 ⟨rfl, hn⟩
 replace HM := hcl39 _ _ _ rfl hn
 refine ops_nil (at_then (run_block (run_seq (run_region rfl (oy rfl (ex_eql rfl rfl rfl) (oM rfl (ops_nil (at_then (run_cond (b := (t11.1 == 0)) rfl (fun hb41 => ?_) (fun hb41 => ?_))))))))))
 ·replace H := cond_t hb41 H
  obtain ⟨t12, h42, H⟩ := bind_some H
  refine run_region rfl (oM rfl (oz rfl (does_lit (e := 2) (cs := [nI (-1), nI 3, nI 0, nI 1]) (xs := ([(-1), 3, 0, 1] : List Int)) kInt rfl rfl (fun _ => by kernel_rfl) rfl rfl (fun _ _ h => by have h' : _ = [] := h; subst h'; exact (Elems.cons (d := kInt) (x := (-1)) (f := []) ⟨rfl, rfl⟩ (Elems.cons (d := kInt) (x := 3) (f := []) ⟨rfl, rfl⟩ (Elems.cons (d := kInt) (x := 0) (f := []) ⟨rfl, rfl⟩ (Elems.cons (d := kInt) (x := 1) (f := []) ⟨rfl, rfl⟩ .nil))))) HM.emp) ?_))
  rintro v43 w44 HM
  replace HM := HM.fr1 1 rfl
  obtain ⟨F45, hF46, hFn47, hFl48, HMh49, hcl50⟩ := HM.hideN 1 rfl
  refine oz rfl (does_callk rfl callok15 rfl (spec_l1Pick.calls (x0 := (⟨x0.fCode, t11.2⟩ : l1Src)) (x1 := ([(-1), 3, 0, 1] : List Int)) (hide_olds _ _) hF46 hFn47 hFl48 (HMh49.rdo hwo hp0_0) (HMh49.own_rd 0 rfl) h42)) ?_
  rintro _ w51 ⟨rfl, hn⟩
  replace HM := hcl50 _ _ _ rfl hn
  refine oy rfl (ex_fieldAddr (off' := 0) rfl rfl U28 rfl tsz2 rfl) ?_
  replace HM := HM.fr1 2 rfl
  refine odS rfl rfl rfl (does_store (vs := [nI t12.1]) (cs' := [nI t12.1, nI t10.1.fMember, u28, u29]) rfl rfl rfl rfl tsz2 (Ones.int Ones.nil) rfl rfl HM) ?_
  rintro w52 HM
  refine ops_nil (at_block (at_then (run_seq (run_region rfl (oy rfl (ldN rfl rfl U28 rfl tsz28 ((HM.box_at 0 rfl).subL 0 4 rfl) rfl) ?_)))))
  replace HM := HM.fr1 5 rfl
  refine odS rfl rfl rfl (does_store (vs := [nI t12.1, nI t10.1.fMember, u28, u29]) (cs' := [nI t12.1, nI t10.1.fMember, u28, u29]) rfl rfl rfl rfl tsz28 (Ones.int (Ones.int (Ones.rd (HM.own_rd 4 rfl) (Ones.rd (HM.own_rd 5 rfl) Ones.nil)))) rfl rfl HM) ?_
  rintro w53 HM
  refine ops_nil (at_then (run_ret ?_))
  replace HM := ((HM.frd 1 rfl).frd 2 rfl).fr1 1 rfl
  replace HM := ((HM.fr1 3 rfl).fr1 3 rfl).fr1 3 rfl
  have hcb0 := HM.box_at 0 rfl
  replace HM := HM.frd 0 rfl
  cases H
  exact at_retN rfl rfl U28 rfl tsz28 rfl hcb0 ⟨_, rfl, _, _, rfl, HM⟩
 ·replace H := cond_f hb41 H
  refine run_seq (run_region rfl (oy rfl (ex_eql rfl rfl rfl) (oM rfl (ops_nil (at_then (run_cond (b := (t11.1 == 1)) rfl (fun hb54 => ?_) (fun hb54 => ?_)))))))
  ·replace H := cond_t hb54 H
   obtain ⟨t13, h55, H⟩ := bind_some H
   refine run_region rfl (oM rfl (oz rfl (does_lit (e := 2) (cs := [nI 0, nI 1000, nI 5]) (xs := ([0, 1000, 5] : List Int)) kInt rfl rfl (fun _ => by kernel_rfl) rfl rfl (fun _ _ h => by have h' : _ = [] := h; subst h'; exact (Elems.cons (d := kInt) (x := 0) (f := []) ⟨rfl, rfl⟩ (Elems.cons (d := kInt) (x := 1000) (f := []) ⟨rfl, rfl⟩ (Elems.cons (d := kInt) (x := 5) (f := []) ⟨rfl, rfl⟩ .nil)))) HM.emp) ?_))
   rintro v56 w57 HM
   replace HM := HM.fr1 1 rfl
   obtain ⟨F58, hF59, hFn60, hFl61, HMh62, hcl63⟩ := HM.hideN 1 rfl
   refine oz rfl (does_callk rfl callok15 rfl (spec_l1Pick.calls (x0 := (⟨x0.fCode, t11.2⟩ : l1Src)) (x1 := ([0, 1000, 5] : List Int)) (hide_olds _ _) hF59 hFn60 hFl61 (HMh62.rdo hwo hp0_0) (HMh62.own_rd 0 rfl) h55)) ?_
   rintro _ w64 ⟨rfl, hn⟩
   replace HM := hcl63 _ _ _ rfl hn
   refine oy rfl (ex_fieldAddr (off' := 1) rfl rfl U28 rfl tsz2 rfl) ?_
   replace HM := HM.fr1 2 rfl
   refine odS rfl rfl rfl (does_store (vs := [nI t13.1]) (cs' := [nI t10.1.fKind, nI t13.1, u28, u29]) rfl rfl rfl rfl tsz2 (Ones.int Ones.nil) rfl rfl HM) ?_
   rintro w65 HM
   refine ops_nil (at_block (at_then (run_seq (run_region rfl (oy rfl (ldN rfl rfl U28 rfl tsz28 ((HM.box_at 0 rfl).subL 0 4 rfl) rfl) ?_)))))
   replace HM := HM.fr1 5 rfl
   refine odS rfl rfl rfl (does_store (vs := [nI t10.1.fKind, nI t13.1, u28, u29]) (cs' := [nI t10.1.fKind, nI t13.1, u28, u29]) rfl rfl rfl rfl tsz28 (Ones.int (Ones.int (Ones.rd (HM.own_rd 4 rfl) (Ones.rd (HM.own_rd 5 rfl) Ones.nil)))) rfl rfl HM) ?_
   rintro w66 HM
   refine ops_nil (at_then (run_ret ?_))
   replace HM := ((HM.frd 1 rfl).frd 2 rfl).fr1 1 rfl
   replace HM := ((HM.fr1 3 rfl).fr1 3 rfl).fr1 3 rfl
   have hcb0 := HM.box_at 0 rfl
   replace HM := HM.frd 0 rfl
   cases H
   exact at_retN rfl rfl U28 rfl tsz28 rfl hcb0 ⟨_, rfl, _, _, rfl, HM⟩
  ·replace H := cond_f hb54 H
   refine run_seq (run_region rfl (oy rfl (ex_eql rfl rfl rfl) (oM rfl (ops_nil (at_then (run_cond (b := (t11.1 == 2)) rfl (fun hb67 => ?_) (fun hb67 => ?_)))))))
   ·replace H := cond_t hb67 H
    obtain ⟨t14, h68, H⟩ := bind_some H
    obtain ⟨t15, h69, H⟩ := bind_some H
    obtain ⟨e70, H⟩ := chk_some H
    refine run_meet (fun ρ_ w_ => ∃ v71 : Value, ρ_ = [(2, pA b19 0), (3, pA b31 0)] ∧ Mem w X w_ [box b0 78 [p0_0, nI t15.2], box b19 28 [nI 0, nI 0, .slice none 0 0, .slice none 0 0], box b31 28 [nI t10.1.fKind, nI t10.1.fMember, v71, u29], own kRef 38 v71 (t10.1.fIns ++ ([(⟨t14.1, t15.1⟩ : Ref)] : List Ref)), own kOut 68 u29 t10.1.fOuts]) ?_ ?_
    ·replace HM := ((HM.fr1 2 rfl).fr1 2 rfl).fr1 2 rfl
     refine run_draw (fun w_ => Mem w X w_ [own kOut 68 u29 t10.1.fOuts, box b19 28 [nI 0, nI 0, .slice none 0 0, .slice none 0 0]]) mixed rfl (l := #[false, false, false, false, false, false, false, false, false, false, false, false, false]) rfl ?_
     replace HM := HM.grow (fr_drew _)
     have hS := HM.sufN 3 rfl
     refine drw_cut3 (l' := (bs 13 1023)) (f' := 3) (fun (v72 : Value) => fun (v73 : Value) => fun (v74 : Value) => [(2, pA b19 0), (3, pA b31 0), (23, u28), (31, v74)]) (fun (v72 : Value) => fun (v73 : Value) => fun (v74 : Value) => fun w_ => Mem w X w_ [own kRef 38 v74 ([(⟨t14.1, t15.1⟩ : Ref)] : List Ref), box b0 78 [p0_0, nI t15.2], own kInt 2 v73 ([0, 4] : List Int), own kInt 2 v72 ([0, 61, 1] : List Int), box b31 28 [nI t10.1.fKind, nI t10.1.fMember, u28, u29], own kRef 38 u28 t10.1.fIns, own kOut 68 u29 t10.1.fOuts, box b19 28 [nI 0, nI 0, .slice none 0 0, .slice none 0 0]]) ?_ (fun K75 => ?_)
     ·rintro v72 v73 v74 w76 HM
      have hS := HM.sufN 6 rfl
      replace HM := HM.fr1 5 rfl
      refine drw_any [10] (by kernel_rfl) rfl (.cons ?_ .nil)
      refine br_does (l' := (bs 13 2047)) rfl (guard_none rfl) rfl rfl (by kernel_rfl) (does_appendR kRef flat_plain rfl rfl rfl U25 tsz38 rfl tby38 tz38 rfl rfl (leB_le e70) (HM.own_rd 1 rfl) HM) ?_
      rintro v71 w77 HM
      have hS := HM.sufN 6 rfl
      refine ⟨hS, (dt 11 (bs 13 4095) rfl rfl rfl rfl (by kernel_rfl) (ex_fieldAddr (off' := 2) rfl rfl U28 rfl tsz25 rfl) hS ?_)⟩
      replace HM := HM.fr1 5 rfl
      refine drw_any [12] (by kernel_rfl) rfl (.cons ?_ .nil)
      refine br_doesS (l' := (bs 13 8191)) rfl (guard_none rfl) rfl (by kernel_rfl) (does_store (vs := [v71]) (cs' := [nI t10.1.fKind, nI t10.1.fMember, v71, u29]) rfl rfl rfl (rd_cells (HM.own_rd 1 rfl)) tsz25 (Ones.rd (HM.own_rd 1 rfl) Ones.nil) rfl rfl HM) ?_
      rintro w78 HM
      have hS := HM.sufN 6 rfl
      refine ⟨hS, (drw_done (by kernel_rfl) ?_)⟩
      replace HM := ((HM.frd 2 rfl).frd 3 rfl).frd 3 rfl
      replace HM := ((HM.fr1 3 rfl).fr1 2 rfl).fr1 2 rfl
      replace HM := (HM.fr1 4 rfl).fr1 4 rfl
      exact at_meet _ ⟨_, rfl, HM⟩ (Sub.of rfl)
     refine drw_cut2 (l' := (bs 13 511)) (f' := 4) (fun (v72 : Value) => fun (v73 : Value) => [(2, pA b19 0), (3, pA b31 0), (23, u28), (30, .agg #[(nI t14.1), (nI t15.1)])]) (fun (v72 : Value) => fun (v73 : Value) => fun w_ => Mem w X w_ [box b0 78 [p0_0, nI t15.2], own kInt 2 v73 ([0, 4] : List Int), own kInt 2 v72 ([0, 61, 1] : List Int), box b31 28 [nI t10.1.fKind, nI t10.1.fMember, u28, u29], own kRef 38 u28 t10.1.fIns, own kOut 68 u29 t10.1.fOuts, box b19 28 [nI 0, nI 0, .slice none 0 0, .slice none 0 0]]) ?_ (fun K79 => ?_)
     ·rintro v72 v73 w80 HM
      have hS := HM.sufN 5 rfl
      refine drw_any [9] (by kernel_rfl) rfl (.cons ?_ .nil)
      refine br_does (l' := (bs 13 1023)) rfl (guard_none rfl) rfl rfl (by kernel_rfl) (does_lit (e := 38) (cs := [nI t14.1, nI t15.1]) (xs := ([(⟨t14.1, t15.1⟩ : Ref)] : List Ref)) kRef rfl rfl (fun _ => by kernel_rfl) rfl rfl (fun _ _ h => by have h' : _ = [] := h; subst h'; exact (Elems.cons (d := kRef) (x := (⟨t14.1, t15.1⟩ : Ref)) (f := []) ⟨rfl, rfl⟩ .nil)) HM.emp) ?_
      rintro v74 w81 HM
      have hS := HM.sufN 6 rfl
      exact ⟨hS, (drw_sub (K75 v72 v73 v74 _ HM) (Sub.of rfl))⟩
     refine drw_cut2 (l' := (bs 13 127)) (f' := 6) (fun (v72 : Value) => fun (v73 : Value) => [(2, pA b19 0), (3, pA b31 0), (27, pA b0 0), (23, u28), (26, nI t14.1), (28, v73)]) (fun (v72 : Value) => fun (v73 : Value) => fun w_ => Mem w X w_ [own kInt 2 v73 ([0, 4] : List Int), box b0 78 [p0_0, nI t14.2], own kInt 2 v72 ([0, 61, 1] : List Int), box b31 28 [nI t10.1.fKind, nI t10.1.fMember, u28, u29], own kRef 38 u28 t10.1.fIns, own kOut 68 u29 t10.1.fOuts, box b19 28 [nI 0, nI 0, .slice none 0 0, .slice none 0 0]]) ?_ (fun K82 => ?_)
     ·rintro v72 v73 w83 HM
      have hS := HM.sufN 5 rfl
      replace HM := HM.fr1 1 rfl
      obtain ⟨F84, hF85, hFn86, hFl87, HMh88, hcl89⟩ := HM.hideN 1 rfl
      refine drw_any [7] (by kernel_rfl) rfl (.cons ?_ .nil)
      refine br_does (l' := (bs 13 255)) rfl (guard_none rfl) rfl rfl (by kernel_rfl) (does_callk rfl callok15 rfl (spec_l1Pick.calls (x0 := (⟨x0.fCode, t14.2⟩ : l1Src)) (x1 := ([0, 4] : List Int)) (hide_olds _ _) hF85 hFn86 hFl87 (HMh88.rdo hwo hp0_0) (HMh88.own_rd 0 rfl) h69)) ?_
      rintro _ w90 ⟨rfl, hn⟩
      replace HM := hcl89 _ _ _ rfl hn
      have hS := HM.sufN 5 rfl
      refine ⟨hS, (dt 8 (bs 13 511) rfl rfl rfl rfl (by kernel_rfl) (ex_build (cells := #[(nI t14.1), (nI t15.1)]) rfl rfl (by kernel_rfl)) hS ?_)⟩
      exact drw_sub (K79 v72 v73 _ HM) (Sub.of rfl)
     refine drw_cut1 (l' := (bs 13 63)) (f' := 7) (fun (v72 : Value) => [(2, pA b19 0), (3, pA b31 0), (27, pA b0 0), (23, u28), (26, nI t14.1)]) (fun (v72 : Value) => fun w_ => Mem w X w_ [box b0 78 [p0_0, nI t14.2], own kInt 2 v72 ([0, 61, 1] : List Int), box b31 28 [nI t10.1.fKind, nI t10.1.fMember, u28, u29], own kRef 38 u28 t10.1.fIns, own kOut 68 u29 t10.1.fOuts, box b19 28 [nI 0, nI 0, .slice none 0 0, .slice none 0 0]]) ?_ (fun K91 => ?_)
     ·rintro v72 w92 HM
      have hS := HM.sufN 4 rfl
      refine drw_any [6] (by kernel_rfl) rfl (.cons ?_ .nil)
      refine br_does (l' := (bs 13 127)) rfl (guard_none rfl) rfl rfl (by kernel_rfl) (does_lit (e := 2) (cs := [nI 0, nI 4]) (xs := ([0, 4] : List Int)) kInt rfl rfl (fun _ => by kernel_rfl) rfl rfl (fun _ _ h => by have h' : _ = [] := h; subst h'; exact (Elems.cons (d := kInt) (x := 0) (f := []) ⟨rfl, rfl⟩ (Elems.cons (d := kInt) (x := 4) (f := []) ⟨rfl, rfl⟩ .nil))) HM.emp) ?_
      rintro v73 w93 HM
      have hS := HM.sufN 5 rfl
      exact ⟨hS, (drw_sub (K82 v72 v73 _ HM) (Sub.of rfl))⟩
     refine drw_cut2 (l' := (bs 13 111)) (f' := 7) (fun (v72 : Value) => fun (v73 : Value) => [(2, pA b19 0), (3, pA b31 0), (24, pA b0 0), (27, pA b0 0), (23, u28), (25, v72), (28, v73)]) (fun (v72 : Value) => fun (v73 : Value) => fun w_ => Mem w X w_ [own kInt 2 v73 ([0, 4] : List Int), own kInt 2 v72 ([0, 61, 1] : List Int), box b0 78 [p0_0, nI t11.2], box b31 28 [nI t10.1.fKind, nI t10.1.fMember, u28, u29], own kRef 38 u28 t10.1.fIns, own kOut 68 u29 t10.1.fOuts, box b19 28 [nI 0, nI 0, .slice none 0 0, .slice none 0 0]]) ?_ (fun K94 => ?_)
     ·rintro v72 v73 w95 HM
      have hS := HM.sufN 5 rfl
      replace HM := HM.fr1 2 rfl
      obtain ⟨F96, hF97, hFn98, hFl99, HMh100, hcl101⟩ := HM.hideN 1 rfl
      refine drw_any [4] (by kernel_rfl) rfl (.cons ?_ .nil)
      refine br_does (l' := (bs 13 127)) rfl (guard_none rfl) rfl rfl (by kernel_rfl) (does_callk rfl callok15 rfl (spec_l1Pick.calls (x0 := (⟨x0.fCode, t11.2⟩ : l1Src)) (x1 := ([0, 61, 1] : List Int)) (hide_olds _ _) hF97 hFn98 hFl99 (HMh100.rdo hwo hp0_0) (HMh100.own_rd 1 rfl) h68)) ?_
      rintro _ w102 ⟨rfl, hn⟩
      replace HM := hcl101 _ _ _ rfl hn
      have hS := HM.sufN 5 rfl
      refine ⟨hS, ?_⟩
      replace HM := ((HM.fr1 6 rfl).fr1 6 rfl).fr1 6 rfl
      replace HM := ((HM.fr1 6 rfl).fr1 6 rfl).fr1 5 rfl
      replace HM := HM.fr1 6 rfl
      exact drw_sub (K82 v72 v73 _ HM) (Sub.of rfl)
     refine drw_cut2 (l' := (bs 13 125)) (f' := 7) (fun (v72 : Value) => fun (v73 : Value) => [(2, pA b19 0), (3, pA b31 0), (22, pA b31 2), (27, pA b0 0), (26, nI t14.1), (28, v73)]) (fun (v72 : Value) => fun (v73 : Value) => fun w_ => Mem w X w_ [own kInt 2 v73 ([0, 4] : List Int), box b0 78 [p0_0, nI t14.2], own kInt 2 v72 ([0, 61, 1] : List Int), box b31 28 [nI t10.1.fKind, nI t10.1.fMember, u28, u29], own kRef 38 u28 t10.1.fIns, own kOut 68 u29 t10.1.fOuts, box b19 28 [nI 0, nI 0, .slice none 0 0, .slice none 0 0]]) ?_ (fun K103 => ?_)
     ·rintro v72 v73 w104 HM
      have hS := HM.sufN 5 rfl
      refine drw_any [1, 7] (by kernel_rfl) rfl (.cons ?_ (.cons ?_ .nil))
      ·refine br_does (l' := (bs 13 127)) rfl (guard_none rfl) rfl rfl (by kernel_rfl) (does_ex' (ex_load1 rfl rfl U25 rfl ((HM.box_at 3 rfl) 2 _ rfl))) ?_
       rintro _ _ ⟨rfl, rfl⟩
       exact ⟨hS, (drw_sub (K82 v72 v73 _ HM) (Sub.of rfl))⟩
      ·replace HM := HM.fr1 1 rfl
       obtain ⟨F84, hF85, hFn86, hFl87, HMh88, hcl89⟩ := HM.hideN 1 rfl
       refine br_does (l' := (bs 13 253)) rfl (guard_none rfl) rfl rfl (by kernel_rfl) (does_callk rfl callok15 rfl (spec_l1Pick.calls (x0 := (⟨x0.fCode, t14.2⟩ : l1Src)) (x1 := ([0, 4] : List Int)) (hide_olds _ _) hF85 hFn86 hFl87 (HMh88.rdo hwo hp0_0) (HMh88.own_rd 0 rfl) h69)) ?_
       rintro _ w105 ⟨rfl, hn⟩
       replace HM := hcl89 _ _ _ rfl hn
       have hS := HM.sufN 5 rfl
       refine ⟨hS, (dt 8 (bs 13 509) rfl rfl rfl rfl (by kernel_rfl) (ex_build (cells := #[(nI t14.1), (nI t15.1)]) rfl rfl (by kernel_rfl)) hS ?_)⟩
       refine drw_any [1, 9] (by kernel_rfl) rfl (.cons ?_ (.cons ?_ .nil))
       ·refine br_does (l' := (bs 13 511)) rfl (guard_none rfl) rfl rfl (by kernel_rfl) (does_ex' (ex_load1 rfl rfl U25 rfl ((HM.box_at 3 rfl) 2 _ rfl))) ?_
        rintro _ _ ⟨rfl, rfl⟩
        exact ⟨hS, (drw_sub (K79 v72 v73 _ HM) (Sub.of rfl))⟩
       ·refine br_does (l' := (bs 13 1021)) rfl (guard_none rfl) rfl rfl (by kernel_rfl) (does_lit (e := 38) (cs := [nI t14.1, nI t15.1]) (xs := ([(⟨t14.1, t15.1⟩ : Ref)] : List Ref)) kRef rfl rfl (fun _ => by kernel_rfl) rfl rfl (fun _ _ h => by have h' : _ = [] := h; subst h'; exact (Elems.cons (d := kRef) (x := (⟨t14.1, t15.1⟩ : Ref)) (f := []) ⟨rfl, rfl⟩ .nil)) HM.emp) ?_
        rintro v74 w106 HM
        have hS := HM.sufN 6 rfl
        refine ⟨hS, (drw_any [1] (by kernel_rfl) rfl (.cons ?_ .nil))⟩
        refine br_does (l' := (bs 13 1023)) rfl (guard_none rfl) rfl rfl (by kernel_rfl) (does_ex' (ex_load1 rfl rfl U25 rfl ((HM.box_at 4 rfl) 2 _ rfl))) ?_
        rintro _ _ ⟨rfl, rfl⟩
        exact ⟨hS, (drw_sub (K75 v72 v73 v74 _ HM) (Sub.of rfl))⟩
     refine drw_cut1 (l' := (bs 13 47)) (f' := 8) (fun (v72 : Value) => [(2, pA b19 0), (3, pA b31 0), (24, pA b0 0), (27, pA b0 0), (23, u28), (25, v72)]) (fun (v72 : Value) => fun w_ => Mem w X w_ [own kInt 2 v72 ([0, 61, 1] : List Int), box b0 78 [p0_0, nI t11.2], box b31 28 [nI t10.1.fKind, nI t10.1.fMember, u28, u29], own kRef 38 u28 t10.1.fIns, own kOut 68 u29 t10.1.fOuts, box b19 28 [nI 0, nI 0, .slice none 0 0, .slice none 0 0]]) ?_ (fun K107 => ?_)
     ·rintro v72 w108 HM
      have hS := HM.sufN 4 rfl
      refine drw_any [4, 6] (by kernel_rfl) rfl (.cons ?_ (.cons ?_ .nil))
      ·replace HM := HM.fr1 1 rfl
       obtain ⟨F96, hF97, hFn98, hFl99, HMh100, hcl101⟩ := HM.hideN 1 rfl
       refine br_does (l' := (bs 13 63)) rfl (guard_none rfl) rfl rfl (by kernel_rfl) (does_callk rfl callok15 rfl (spec_l1Pick.calls (x0 := (⟨x0.fCode, t11.2⟩ : l1Src)) (x1 := ([0, 61, 1] : List Int)) (hide_olds _ _) hF97 hFn98 hFl99 (HMh100.rdo hwo hp0_0) (HMh100.own_rd 0 rfl) h68)) ?_
       rintro _ w109 ⟨rfl, hn⟩
       replace HM := hcl101 _ _ _ rfl hn
       have hS := HM.sufN 4 rfl
       exact ⟨hS, (drw_sub (K91 v72 _ HM) (Sub.of rfl))⟩
      ·refine br_does (l' := (bs 13 111)) rfl (guard_none rfl) rfl rfl (by kernel_rfl) (does_lit (e := 2) (cs := [nI 0, nI 4]) (xs := ([0, 4] : List Int)) kInt rfl rfl (fun _ => by kernel_rfl) rfl rfl (fun _ _ h => by have h' : _ = [] := h; subst h'; exact (Elems.cons (d := kInt) (x := 0) (f := []) ⟨rfl, rfl⟩ (Elems.cons (d := kInt) (x := 4) (f := []) ⟨rfl, rfl⟩ .nil))) HM.emp) ?_
       rintro v73 w110 HM
       have hS := HM.sufN 5 rfl
       exact ⟨hS, (drw_sub (K94 v72 v73 _ HM) (Sub.of rfl))⟩
     refine drw_cut1 (l' := (bs 13 103)) (f' := 8) (fun (v73 : Value) => [(2, pA b19 0), (3, pA b31 0), (24, pA b0 0), (27, pA b0 0), (23, u28), (28, v73)]) (fun (v73 : Value) => fun w_ => Mem w X w_ [own kInt 2 v73 ([0, 4] : List Int), box b0 78 [p0_0, nI t11.2], box b31 28 [nI t10.1.fKind, nI t10.1.fMember, u28, u29], own kRef 38 u28 t10.1.fIns, own kOut 68 u29 t10.1.fOuts, box b19 28 [nI 0, nI 0, .slice none 0 0, .slice none 0 0]]) ?_ (fun K111 => ?_)
     ·rintro v73 w112 HM
      have hS := HM.sufN 4 rfl
      refine drw_any [3] (by kernel_rfl) rfl (.cons ?_ .nil)
      refine br_does (l' := (bs 13 111)) rfl (guard_none rfl) rfl rfl (by kernel_rfl) (does_lit (e := 2) (cs := [nI 0, nI 61, nI 1]) (xs := ([0, 61, 1] : List Int)) kInt rfl rfl (fun _ => by kernel_rfl) rfl rfl (fun _ _ h => by have h' : _ = [] := h; subst h'; exact (Elems.cons (d := kInt) (x := 0) (f := []) ⟨rfl, rfl⟩ (Elems.cons (d := kInt) (x := 61) (f := []) ⟨rfl, rfl⟩ (Elems.cons (d := kInt) (x := 1) (f := []) ⟨rfl, rfl⟩ .nil)))) HM.emp) ?_
      rintro v72 w113 HM
      have hS := HM.sufN 5 rfl
      refine ⟨hS, ?_⟩
      replace HM := ((HM.fr1 6 rfl).fr1 6 rfl).fr1 6 rfl
      replace HM := ((HM.fr1 6 rfl).fr1 6 rfl).fr1 5 rfl
      replace HM := HM.fr1 6 rfl
      exact drw_sub (K94 v72 v73 _ HM) (Sub.of rfl)
     refine drw_cut2 (l' := (bs 13 109)) (f' := 8) (fun (v72 : Value) => fun (v73 : Value) => [(2, pA b19 0), (3, pA b31 0), (22, pA b31 2), (24, pA b0 0), (27, pA b0 0), (25, v72), (28, v73)]) (fun (v72 : Value) => fun (v73 : Value) => fun w_ => Mem w X w_ [own kInt 2 v73 ([0, 4] : List Int), own kInt 2 v72 ([0, 61, 1] : List Int), box b0 78 [p0_0, nI t11.2], box b31 28 [nI t10.1.fKind, nI t10.1.fMember, u28, u29], own kRef 38 u28 t10.1.fIns, own kOut 68 u29 t10.1.fOuts, box b19 28 [nI 0, nI 0, .slice none 0 0, .slice none 0 0]]) ?_ (fun K114 => ?_)
     ·rintro v72 v73 w115 HM
      have hS := HM.sufN 5 rfl
      refine drw_any [1, 4] (by kernel_rfl) rfl (.cons ?_ (.cons ?_ .nil))
      ·refine br_does (l' := (bs 13 111)) rfl (guard_none rfl) rfl rfl (by kernel_rfl) (does_ex' (ex_load1 rfl rfl U25 rfl ((HM.box_at 3 rfl) 2 _ rfl))) ?_
       rintro _ _ ⟨rfl, rfl⟩
       exact ⟨hS, (drw_sub (K94 v72 v73 _ HM) (Sub.of rfl))⟩
      ·replace HM := HM.fr1 2 rfl
       obtain ⟨F96, hF97, hFn98, hFl99, HMh100, hcl101⟩ := HM.hideN 1 rfl
       refine br_does (l' := (bs 13 125)) rfl (guard_none rfl) rfl rfl (by kernel_rfl) (does_callk rfl callok15 rfl (spec_l1Pick.calls (x0 := (⟨x0.fCode, t11.2⟩ : l1Src)) (x1 := ([0, 61, 1] : List Int)) (hide_olds _ _) hF97 hFn98 hFl99 (HMh100.rdo hwo hp0_0) (HMh100.own_rd 1 rfl) h68)) ?_
       rintro _ w116 ⟨rfl, hn⟩
       replace HM := hcl101 _ _ _ rfl hn
       have hS := HM.sufN 5 rfl
       refine ⟨hS, ?_⟩
       replace HM := ((HM.fr1 6 rfl).fr1 6 rfl).fr1 6 rfl
       replace HM := ((HM.fr1 6 rfl).fr1 6 rfl).fr1 5 rfl
       replace HM := HM.fr1 6 rfl
       exact drw_sub (K103 v72 v73 _ HM) (Sub.of rfl)
     refine dt 0 (bs 13 1) rfl rfl rfl rfl (by kernel_rfl) (ex_fieldAddr (off' := 2) rfl rfl U28 rfl tsz25 rfl) hS ?_
     refine dt 2 (bs 13 5) rfl rfl rfl rfl (by kernel_rfl) (ex_move rfl rfl) hS ?_
     refine dt 5 (bs 13 37) rfl rfl rfl rfl (by kernel_rfl) (ex_move rfl rfl) hS ?_
     refine drw_any [1, 3, 6] (by kernel_rfl) rfl (.cons ?_ (.cons ?_ (.cons ?_ .nil)))
     ·refine br_does (l' := (bs 13 39)) rfl (guard_none rfl) rfl rfl (by kernel_rfl) (does_ex' (ex_load1 rfl rfl U25 rfl ((HM.box_at 1 rfl) 2 _ rfl))) ?_
      rintro _ _ ⟨rfl, rfl⟩
      refine ⟨hS, (drw_any [3, 6] (by kernel_rfl) rfl (.cons ?_ (.cons ?_ .nil)))⟩
      ·refine br_does (l' := (bs 13 47)) rfl (guard_none rfl) rfl rfl (by kernel_rfl) (does_lit (e := 2) (cs := [nI 0, nI 61, nI 1]) (xs := ([0, 61, 1] : List Int)) kInt rfl rfl (fun _ => by kernel_rfl) rfl rfl (fun _ _ h => by have h' : _ = [] := h; subst h'; exact (Elems.cons (d := kInt) (x := 0) (f := []) ⟨rfl, rfl⟩ (Elems.cons (d := kInt) (x := 61) (f := []) ⟨rfl, rfl⟩ (Elems.cons (d := kInt) (x := 1) (f := []) ⟨rfl, rfl⟩ .nil)))) HM.emp) ?_
       rintro v72 w117 HM
       have hS := HM.sufN 4 rfl
       exact ⟨hS, (drw_sub (K107 v72 _ HM) (Sub.of rfl))⟩
      ·refine br_does (l' := (bs 13 103)) rfl (guard_none rfl) rfl rfl (by kernel_rfl) (does_lit (e := 2) (cs := [nI 0, nI 4]) (xs := ([0, 4] : List Int)) kInt rfl rfl (fun _ => by kernel_rfl) rfl rfl (fun _ _ h => by have h' : _ = [] := h; subst h'; exact (Elems.cons (d := kInt) (x := 0) (f := []) ⟨rfl, rfl⟩ (Elems.cons (d := kInt) (x := 4) (f := []) ⟨rfl, rfl⟩ .nil))) HM.emp) ?_
       rintro v73 w118 HM
       have hS := HM.sufN 4 rfl
       exact ⟨hS, (drw_sub (K111 v73 _ HM) (Sub.of rfl))⟩
     ·refine br_does (l' := (bs 13 45)) rfl (guard_none rfl) rfl rfl (by kernel_rfl) (does_lit (e := 2) (cs := [nI 0, nI 61, nI 1]) (xs := ([0, 61, 1] : List Int)) kInt rfl rfl (fun _ => by kernel_rfl) rfl rfl (fun _ _ h => by have h' : _ = [] := h; subst h'; exact (Elems.cons (d := kInt) (x := 0) (f := []) ⟨rfl, rfl⟩ (Elems.cons (d := kInt) (x := 61) (f := []) ⟨rfl, rfl⟩ (Elems.cons (d := kInt) (x := 1) (f := []) ⟨rfl, rfl⟩ .nil)))) HM.emp) ?_
      rintro v72 w119 HM
      have hS := HM.sufN 4 rfl
      refine ⟨hS, (drw_any [1, 4, 6] (by kernel_rfl) rfl (.cons ?_ (.cons ?_ (.cons ?_ .nil))))⟩
      ·refine br_does (l' := (bs 13 47)) rfl (guard_none rfl) rfl rfl (by kernel_rfl) (does_ex' (ex_load1 rfl rfl U25 rfl ((HM.box_at 2 rfl) 2 _ rfl))) ?_
       rintro _ _ ⟨rfl, rfl⟩
       exact ⟨hS, (drw_sub (K107 v72 _ HM) (Sub.of rfl))⟩
      ·replace HM := HM.fr1 1 rfl
       obtain ⟨F96, hF97, hFn98, hFl99, HMh100, hcl101⟩ := HM.hideN 1 rfl
       refine br_does (l' := (bs 13 61)) rfl (guard_none rfl) rfl rfl (by kernel_rfl) (does_callk rfl callok15 rfl (spec_l1Pick.calls (x0 := (⟨x0.fCode, t11.2⟩ : l1Src)) (x1 := ([0, 61, 1] : List Int)) (hide_olds _ _) hF97 hFn98 hFl99 (HMh100.rdo hwo hp0_0) (HMh100.own_rd 0 rfl) h68)) ?_
       rintro _ w120 ⟨rfl, hn⟩
       replace HM := hcl101 _ _ _ rfl hn
       have hS := HM.sufN 4 rfl
       refine ⟨hS, (drw_any [1, 6] (by kernel_rfl) rfl (.cons ?_ (.cons ?_ .nil)))⟩
       ·refine br_does (l' := (bs 13 63)) rfl (guard_none rfl) rfl rfl (by kernel_rfl) (does_ex' (ex_load1 rfl rfl U25 rfl ((HM.box_at 2 rfl) 2 _ rfl))) ?_
        rintro _ _ ⟨rfl, rfl⟩
        exact ⟨hS, (drw_sub (K91 v72 _ HM) (Sub.of rfl))⟩
       ·refine br_does (l' := (bs 13 125)) rfl (guard_none rfl) rfl rfl (by kernel_rfl) (does_lit (e := 2) (cs := [nI 0, nI 4]) (xs := ([0, 4] : List Int)) kInt rfl rfl (fun _ => by kernel_rfl) rfl rfl (fun _ _ h => by have h' : _ = [] := h; subst h'; exact (Elems.cons (d := kInt) (x := 0) (f := []) ⟨rfl, rfl⟩ (Elems.cons (d := kInt) (x := 4) (f := []) ⟨rfl, rfl⟩ .nil))) HM.emp) ?_
        rintro v73 w121 HM
        have hS := HM.sufN 5 rfl
        exact ⟨hS, (drw_sub (K103 v72 v73 _ HM) (Sub.of rfl))⟩
      ·refine br_does (l' := (bs 13 109)) rfl (guard_none rfl) rfl rfl (by kernel_rfl) (does_lit (e := 2) (cs := [nI 0, nI 4]) (xs := ([0, 4] : List Int)) kInt rfl rfl (fun _ => by kernel_rfl) rfl rfl (fun _ _ h => by have h' : _ = [] := h; subst h'; exact (Elems.cons (d := kInt) (x := 0) (f := []) ⟨rfl, rfl⟩ (Elems.cons (d := kInt) (x := 4) (f := []) ⟨rfl, rfl⟩ .nil))) HM.emp) ?_
       rintro v73 w122 HM
       have hS := HM.sufN 5 rfl
       exact ⟨hS, (drw_sub (K114 v72 v73 _ HM) (Sub.of rfl))⟩
     ·refine br_does (l' := (bs 13 101)) rfl (guard_none rfl) rfl rfl (by kernel_rfl) (does_lit (e := 2) (cs := [nI 0, nI 4]) (xs := ([0, 4] : List Int)) kInt rfl rfl (fun _ => by kernel_rfl) rfl rfl (fun _ _ h => by have h' : _ = [] := h; subst h'; exact (Elems.cons (d := kInt) (x := 0) (f := []) ⟨rfl, rfl⟩ (Elems.cons (d := kInt) (x := 4) (f := []) ⟨rfl, rfl⟩ .nil))) HM.emp) ?_
      rintro v73 w123 HM
      have hS := HM.sufN 4 rfl
      refine ⟨hS, (drw_any [1, 3] (by kernel_rfl) rfl (.cons ?_ (.cons ?_ .nil)))⟩
      ·refine br_does (l' := (bs 13 103)) rfl (guard_none rfl) rfl rfl (by kernel_rfl) (does_ex' (ex_load1 rfl rfl U25 rfl ((HM.box_at 2 rfl) 2 _ rfl))) ?_
       rintro _ _ ⟨rfl, rfl⟩
       exact ⟨hS, (drw_sub (K111 v73 _ HM) (Sub.of rfl))⟩
      ·refine br_does (l' := (bs 13 109)) rfl (guard_none rfl) rfl rfl (by kernel_rfl) (does_lit (e := 2) (cs := [nI 0, nI 61, nI 1]) (xs := ([0, 61, 1] : List Int)) kInt rfl rfl (fun _ => by kernel_rfl) rfl rfl (fun _ _ h => by have h' : _ = [] := h; subst h'; exact (Elems.cons (d := kInt) (x := 0) (f := []) ⟨rfl, rfl⟩ (Elems.cons (d := kInt) (x := 61) (f := []) ⟨rfl, rfl⟩ (Elems.cons (d := kInt) (x := 1) (f := []) ⟨rfl, rfl⟩ .nil)))) HM.emp) ?_
       rintro v72 w124 HM
       have hS := HM.sufN 5 rfl
       refine ⟨hS, ?_⟩
       replace HM := ((HM.fr1 6 rfl).fr1 6 rfl).fr1 6 rfl
       replace HM := ((HM.fr1 6 rfl).fr1 6 rfl).fr1 5 rfl
       replace HM := HM.fr1 6 rfl
       exact drw_sub (K114 v72 v73 _ HM) (Sub.of rfl)
    ·rintro _ w125 ⟨v71, rfl, HM⟩
     refine at_block (at_then (run_seq (run_region rfl (oy rfl (ldN rfl rfl U28 rfl tsz28 ((HM.box_at 2 rfl).subL 0 4 rfl) rfl) ?_))))
     replace HM := HM.fr1 1 rfl
     refine odS rfl rfl rfl (does_store (vs := [nI t10.1.fKind, nI t10.1.fMember, v71, u29]) (cs' := [nI t10.1.fKind, nI t10.1.fMember, v71, u29]) rfl rfl rfl rfl tsz28 (Ones.int (Ones.int (Ones.rd (HM.own_rd 3 rfl) (Ones.rd (HM.own_rd 4 rfl) Ones.nil)))) rfl rfl HM) ?_
     rintro w126 HM
     refine ops_nil (at_then (run_ret ?_))
     replace HM := ((HM.frd 2 rfl).fr1 1 rfl).fr1 3 rfl
     replace HM := (HM.fr1 3 rfl).fr1 3 rfl
     have hcb0 := HM.box_at 0 rfl
     replace HM := HM.frd 0 rfl
     cases H
     exact at_retN rfl rfl U28 rfl tsz28 rfl hcb0 ⟨_, rfl, _, _, rfl, HM⟩
   ·replace H := cond_f hb67 H
    refine run_seq (run_region rfl (oy rfl (ex_eql rfl rfl rfl) (oM rfl (ops_nil (at_then (run_cond (b := (t11.1 == 3)) rfl (fun hb127 => ?_) (fun hb127 => ?_)))))))
    ·replace H := cond_t hb127 H
     obtain ⟨t16, h128, H⟩ := bind_some H
     obtain ⟨e129, H⟩ := chk_some H
     replace HM := (HM.fr1 3 rfl).fr1 1 rfl
     refine run_drawf (fun w_ => Mem w X w_ [box b31 28 [nI t10.1.fKind, nI t10.1.fMember, u28, u29], own kRef 38 u28 t10.1.fIns, box b19 28 [nI 0, nI 0, .slice none 0 0, .slice none 0 0]]) [(0, true), (1, true), (2, true), (3, false), (4, false), (5, true), (6, true), (7, false)] mixed rfl rfl (by kernel_rfl) ?_
     replace HM := HM.grow (fr_drew _)
     have hS := HM.sufN 2 rfl
     refine dp rfl rfl rfl rfl (ex_fieldAddr (off' := 3) rfl rfl U28 rfl tsz26 rfl) hS (drwp_take rfl (guard_none rfl) rfl rfl (fun w_ hS_ => (ex_load1 rfl rfl U26 rfl ((hS_.box_at 0 rfl) 3 _ rfl))) hS (dp rfl rfl rfl rfl (ex_move rfl rfl) hS (drwp_one rfl (guard_none rfl) rfl rfl (does_lit (e := 2) (cs := [nI 0, nI 1, nI 1000001, nI 99]) (xs := ([0, 1, 1000001, 99] : List Int)) kInt rfl rfl (fun _ => by kernel_rfl) rfl rfl (fun _ _ h => by have h' : _ = [] := h; subst h'; exact (Elems.cons (d := kInt) (x := 0) (f := []) ⟨rfl, rfl⟩ (Elems.cons (d := kInt) (x := 1) (f := []) ⟨rfl, rfl⟩ (Elems.cons (d := kInt) (x := 1000001) (f := []) ⟨rfl, rfl⟩ (Elems.cons (d := kInt) (x := 99) (f := []) ⟨rfl, rfl⟩ .nil))))) HM.emp) ?_)))
     rintro v130 w131 HM
     have hS := HM.sufN 3 rfl
     refine ⟨hS, ?_⟩
     replace HM := HM.fr1 1 rfl
     obtain ⟨F132, hF133, hFn134, hFl135, HMh136, hcl137⟩ := HM.hideN 1 rfl
     refine drwp_one rfl (guard_none rfl) rfl rfl (does_callk rfl callok15 rfl (spec_l1Pick.calls (x0 := (⟨x0.fCode, t11.2⟩ : l1Src)) (x1 := ([0, 1, 1000001, 99] : List Int)) (hide_olds _ _) hF133 hFn134 hFl135 (HMh136.rdo hwo hp0_0) (HMh136.own_rd 0 rfl) h128)) ?_
     rintro _ w138 ⟨rfl, hn⟩
     replace HM := hcl137 _ _ _ rfl hn
     have hS := HM.sufN 3 rfl
     refine ⟨hS, (dp rfl rfl rfl rfl (ex_indexAddr (d := kOut) rfl rfl rfl U26 tsz68 (HM.own_rd 2 rfl) (idx_lo e129) (idx_hi e129)) hS (dp rfl rfl rfl rfl (ex_fieldAddr (off' := so u29 + ((0 : Int)).toNat * 4) rfl rfl U68 rfl tsz2 rfl) hS ?_))⟩
     replace HM := HM.fr1 2 rfl
     refine drwp_oneS rfl (guard_none rfl) rfl (does_setField (fo := 0) (vs := [(nI t16.1)]) (y := (⟨t16.1, (gt t10.1.fOuts (0 : Int)).fRule⟩ : Out)) kOut rfl rfl rfl rfl rfl tsz2 (Ones.int Ones.nil) rfl rfl (idx_nat e129) (fun _ _ _ h => by rw [← gt_eq (idx_nat e129)] at h; obtain ⟨_, rfl, h2⟩ := h; exact ⟨_, rfl, h2⟩) HM) ?_
     rintro w139 HM
     have hS := HM.sufN 3 rfl
     refine ⟨hS, (drwp_done (at_block (at_then (run_seq (run_region rfl (oy rfl (ldN rfl rfl U28 rfl tsz28 ((HM.box_at 3 rfl).subL 0 4 rfl) rfl) ?_))))))⟩
     replace HM := HM.fr1 5 rfl
     refine odS rfl rfl rfl (does_store (vs := [nI t10.1.fKind, nI t10.1.fMember, u28, u29]) (cs' := [nI t10.1.fKind, nI t10.1.fMember, u28, u29]) rfl rfl rfl rfl tsz28 (Ones.int (Ones.int (Ones.rd (HM.own_rd 5 rfl) (Ones.rd (HM.own_rd 1 rfl) Ones.nil)))) rfl rfl HM) ?_
     rintro w140 HM
     refine ops_nil (at_then (run_ret ?_))
     replace HM := ((HM.frd 3 rfl).frd 3 rfl).fr1 2 rfl
     replace HM := ((HM.fr1 2 rfl).fr1 3 rfl).fr1 3 rfl
     have hcb0 := HM.box_at 0 rfl
     replace HM := HM.frd 0 rfl
     cases H
     exact at_retN rfl rfl U28 rfl tsz28 rfl hcb0 ⟨_, rfl, _, _, rfl, HM⟩
    ·replace H := cond_f hb127 H
     refine run_seq (run_region rfl (oy rfl (ex_eql rfl rfl rfl) (oM rfl (ops_nil (at_then (run_cond (b := (t11.1 == 4)) rfl (fun hb141 => ?_) (fun hb141 => ?_)))))))
     ·replace H := cond_t hb141 H
      obtain ⟨t17, h142, H⟩ := bind_some H
      obtain ⟨e143, H⟩ := chk_some H
      replace HM := (HM.fr1 3 rfl).fr1 1 rfl
      refine run_drawf (fun w_ => Mem w X w_ [box b31 28 [nI t10.1.fKind, nI t10.1.fMember, u28, u29], own kRef 38 u28 t10.1.fIns, box b19 28 [nI 0, nI 0, .slice none 0 0, .slice none 0 0]]) [(0, true), (1, true), (2, true), (3, false), (4, true), (5, true), (6, false)] mixed rfl rfl (by kernel_rfl) ?_
      replace HM := HM.grow (fr_drew _)
      have hS := HM.sufN 2 rfl
      refine dp rfl rfl rfl rfl (ex_fieldAddr (off' := 3) rfl rfl U28 rfl tsz26 rfl) hS (drwp_take rfl (guard_none rfl) rfl rfl (fun w_ hS_ => (ex_load1 rfl rfl U26 rfl ((hS_.box_at 0 rfl) 3 _ rfl))) hS (dp rfl rfl rfl rfl (ex_move rfl rfl) hS ?_))
      obtain ⟨F144, hF145, hFn146, hFl147, HMh148, hcl149⟩ := HM.hideN 1 rfl
      refine drwp_one rfl (guard_none rfl) rfl rfl (does_callk rfl callok79 rfl (spec_l2Bent.calls (x0 := (⟨x0.fCode, t11.2⟩ : l1Src)) (hide_olds _ _) hF145 hFn146 hFl147 (HMh148.rdo hwo hp0_0) h142)) ?_
      rintro _ w150 ⟨u151, rfl, hn⟩
      replace HM := hcl149 _ _ _ rfl hn
      have hS := HM.sufN 3 rfl
      refine ⟨hS, (dp rfl rfl rfl rfl (ex_indexAddr (d := kOut) rfl rfl rfl U26 tsz68 (HM.own_rd 2 rfl) (idx_lo e143) (idx_hi e143)) hS (dp rfl rfl rfl rfl (ex_fieldAddr (off' := so u29 + ((0 : Int)).toNat * 4 + 1) rfl rfl U68 rfl tsz66 rfl) hS ?_))⟩
      replace HM := HM.fr1 2 rfl
      refine drwp_oneS rfl (guard_none rfl) rfl (does_setFieldRow (fo := 1) (vs := [u151, (nI t17.1.fNeed), (nI t17.1.fAfter)]) (y := (⟨(gt t10.1.fOuts (0 : Int)).fValue, (⟨t17.1.fKeys, t17.1.fNeed, t17.1.fAfter⟩ : Rule)⟩ : Out)) kOut rfl rfl rfl rfl rfl tsz66 (Ones.rd (HM.own_rd 1 rfl) (Ones.int (Ones.int Ones.nil))) rfl rfl (idx_nat e143) (fun _ _ _ _ h hC => by rw [← gt_eq (idx_nat e143)] at h; obtain ⟨_, rfl, _⟩ := h; exact ⟨_, rfl, hC⟩) HM) ?_
      rintro w152 HM
      have hS := HM.sufN 2 rfl
      refine ⟨hS, (drwp_done (at_block (at_then (run_seq (run_region rfl (oy rfl (ldN rfl rfl U28 rfl tsz28 ((HM.box_at 2 rfl).subL 0 4 rfl) rfl) ?_))))))⟩
      replace HM := HM.fr1 4 rfl
      refine odS rfl rfl rfl (does_store (vs := [nI t10.1.fKind, nI t10.1.fMember, u28, u29]) (cs' := [nI t10.1.fKind, nI t10.1.fMember, u28, u29]) rfl rfl rfl rfl tsz28 (Ones.int (Ones.int (Ones.rd (HM.own_rd 4 rfl) (Ones.rd (HM.own_rd 1 rfl) Ones.nil)))) rfl rfl HM) ?_
      rintro w153 HM
      refine ops_nil (at_then (run_ret ?_))
      replace HM := ((HM.frd 3 rfl).fr1 2 rfl).fr1 2 rfl
      replace HM := (HM.fr1 3 rfl).fr1 3 rfl
      have hcb0 := HM.box_at 0 rfl
      replace HM := HM.frd 0 rfl
      cases H
      exact at_retN rfl rfl U28 rfl tsz28 rfl hcb0 ⟨_, rfl, _, _, rfl, HM⟩
     ·replace H := cond_f hb141 H
      refine run_seq (run_region rfl (oy rfl (ex_eql rfl rfl rfl) (oM rfl (ops_nil (at_then (run_cond (b := (t11.1 == 5)) rfl (fun hb154 => ?_) (fun hb154 => ?_)))))))
      ·replace H := cond_t hb154 H
       refine run_region rfl (oy rfl (ex_fieldAddr (off' := 2) rfl rfl U28 rfl tsz25 rfl) ?_)
       replace HM := HM.fr1 1 rfl
       refine odS rfl rfl rfl (does_store (vs := [.slice none 0 0]) (cs' := [nI t10.1.fKind, nI t10.1.fMember, .slice none 0 0, u29]) rfl rfl rfl rfl tsz25 (Ones.sl Ones.nil) rfl rfl HM) ?_
       rintro w155 HM
       refine ops_nil (at_block (at_then (run_seq (run_region rfl (oy rfl (ldN rfl rfl U28 rfl tsz28 ((HM.box_at 0 rfl).subL 0 4 rfl) rfl) ?_)))))
       replace HM := HM.fr1 4 rfl
       refine odS rfl rfl rfl (does_store (vs := [nI t10.1.fKind, nI t10.1.fMember, .slice none 0 0, u29]) (cs' := [nI t10.1.fKind, nI t10.1.fMember, .slice none 0 0, u29]) rfl rfl rfl rfl tsz28 (Ones.int (Ones.int (Ones.sl (Ones.rd (HM.own_rd 4 rfl) Ones.nil)))) rfl rfl HM) ?_
       rintro w156 HM
       refine ops_nil (at_then (run_ret ?_))
       replace HM := ((HM.empty kRef 38 none).frd 2 rfl).frd 3 rfl
       replace HM := ((HM.fr1 2 rfl).fr1 3 rfl).fr1 2 rfl
       replace HM := HM.fr1 3 rfl
       have hcb0 := HM.box_at 0 rfl
       replace HM := HM.frd 0 rfl
       cases H
       exact at_retN rfl rfl U28 rfl tsz28 rfl hcb0 ⟨_, rfl, _, _, rfl, HM⟩
      ·replace H := cond_f hb154 H
       refine run_seq (run_region rfl (oy rfl (ex_eql rfl rfl rfl) (oM rfl (ops_nil (at_then (run_cond (b := (t11.1 == 6)) rfl (fun hb157 => ?_) (fun hb157 => ?_)))))))
       ·replace H := cond_t hb157 H
        obtain ⟨e158, H⟩ := chk_some H
        obtain ⟨e159, H⟩ := chk_some H
        refine run_region rfl (oz rfl (does_make (x := (⟨0, (⟨[], 0, 0⟩ : Rule)⟩ : Out)) kOut rfl rfl rfl U26 tsz68 tby68 tz68 rfl rfl (fun _ => ⟨.slice none 0 0, rfl, OwS.nil _ _ _ _⟩) (of_decide_eq_true e158) rfl (leB_le e159) rfl HM) ?_)
        rintro v160 w161 HM
        refine oy rfl (ex_fieldAddr (off' := 3) rfl rfl U28 rfl tsz26 rfl) ?_
        replace HM := HM.fr1 2 rfl
        refine odS rfl rfl rfl (does_store (vs := [v160]) (cs' := [nI t10.1.fKind, nI t10.1.fMember, u28, v160]) rfl rfl rfl (rd_cells (HM.own_rd 1 rfl)) tsz26 (Ones.rd (HM.own_rd 1 rfl) Ones.nil) rfl rfl HM) ?_
        rintro w162 HM
        refine ops_nil (at_block (at_then (run_seq (run_region rfl (oy rfl (ldN rfl rfl U28 rfl tsz28 ((HM.box_at 0 rfl).subL 0 4 rfl) rfl) ?_)))))
        replace HM := HM.fr1 5 rfl
        refine odS rfl rfl rfl (does_store (vs := [nI t10.1.fKind, nI t10.1.fMember, u28, v160]) (cs' := [nI t10.1.fKind, nI t10.1.fMember, u28, v160]) rfl rfl rfl rfl tsz28 (Ones.int (Ones.int (Ones.rd (HM.own_rd 4 rfl) (Ones.rd (HM.own_rd 2 rfl) Ones.nil)))) rfl rfl HM) ?_
        rintro w163 HM
        refine ops_nil (at_then (run_ret ?_))
        replace HM := ((HM.frd 1 rfl).frd 4 rfl).fr1 2 rfl
        replace HM := ((HM.fr1 2 rfl).fr1 3 rfl).fr1 3 rfl
        have hcb0 := HM.box_at 0 rfl
        replace HM := HM.frd 0 rfl
        cases H
        exact at_retN rfl rfl U28 rfl tsz28 rfl hcb0 ⟨_, rfl, _, _, rfl, HM⟩
       ·replace H := cond_f hb157 H
        refine run_skip (at_block (at_then (run_seq (run_region rfl (oy rfl (ldN rfl rfl U28 rfl tsz28 ((HM.box_at 1 rfl).subL 0 4 rfl) rfl) ?_)))))
        replace HM := HM.fr1 4 rfl
        refine odS rfl rfl rfl (does_store (vs := [nI t10.1.fKind, nI t10.1.fMember, u28, u29]) (cs' := [nI t10.1.fKind, nI t10.1.fMember, u28, u29]) rfl rfl rfl rfl tsz28 (Ones.int (Ones.int (Ones.rd (HM.own_rd 3 rfl) (Ones.rd (HM.own_rd 4 rfl) Ones.nil)))) rfl rfl HM) ?_
        rintro w164 HM
        refine ops_nil (at_then (run_ret ?_))
        replace HM := ((HM.frd 2 rfl).fr1 1 rfl).fr1 3 rfl
        replace HM := (HM.fr1 3 rfl).fr1 3 rfl
        have hcb0 := HM.box_at 0 rfl
        replace HM := HM.frd 0 rfl
        cases H
        exact at_retN rfl rfl U28 rfl tsz28 rfl hcb0 ⟨_, rfl, _, _, rfl, HM⟩
end Go.Proofs.YtecgbhfgkkpmhacGreat.Zk
