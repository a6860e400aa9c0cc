/- What functions of the program compute, each as a plain function, and that they do. Conditions: as each theorem states them. -/
import Derived.Test.YtecgbhfgkkpmhacGreatFnUndosZkF3
namespace Go.Proofs.YtecgbhfgkkpmhacGreat.Zk
open Go Go.RowKit Go.IntWalk Go.Proofs
set_option linter.unusedVariables false
set_option linter.unusedSimpArgs false
set_option maxRecDepth 100000
set_option maxHeartbeats 4000000
def spec_l1Max.f (k : Nat) (x0 : Int) (x1 : Int) : Option Int := (bif (decide (x1 < x0)) then some x0 else some x1)
theorem spec_l1Max.calls {k : Nat} {x0 : Int} {x1 : Int}  {w : World}  {r : Int} (H : spec_l1Max.f k x0 x1 = some r) :
  Calls Tryz.prog 105 ([nI x0, nI x1] : List Value).toArray w (fun e w_ => ∃ v, e = .returned v ∧ v = (nI r) ∧ Mem w [] w_ []) := by
 have HM := Mem.start w
 refine calls_run (N := 10) Tryz.func105 rfl rfl rfl rfl ?_
 unfold spec_l1Max.f at H
 refine run_seq (run_region rfl (oM rfl (ops_nil (at_then (run_seq (run_seq (run_region rfl (oM rfl (oM rfl (oy rfl (ex_gtr rfl rfl rfl) (ops_nil (at_then ?_))))))))))))
 refine run_cond (b := (decide (x1 < x0))) rfl (fun hb10 => ?_) (fun hb10 => ?_)
 ·replace H := cond_t hb10 H
  refine run_seq (run_region rfl (oM rfl (oM rfl (ops_nil (at_then (run_ret (at_then_ret ?_)))))))
  cases H
  exact at_ret1 rfl rfl ⟨_, rfl, rfl, HM⟩
 ·replace H := cond_f hb10 H
  refine run_skip (at_then (run_seq (run_region rfl (oM rfl (oM rfl (ops_nil (at_then (run_ret ?_))))))))
  cases H
  exact at_ret1 rfl rfl ⟨_, rfl, rfl, HM⟩

def spec_l5Tx.l0 (x0 : l1Src) (x1 : List Coin) : Nat → Int → (List Ref) → Int → Int → Option (Int × (List Ref) × Int)
 | 0, _, _, _, _ => none
 | k + 1, a10, a11, a12, a13 => (bif (decide (0 < a13)) then ((spec_l1Next.f k (⟨x0.fCode, a10⟩ : l1Src) (x1.length : Int)).bind fun t14 => (chk (idxOk t14.1 x1.length) ((spec_l3Among.f k a11 ((gt x1 t14.1).fRef)).bind fun t15 => (bif !t15 then (chk (leB ((a11.length + ([(gt x1 t14.1).fRef] : List Ref).length) * 16) 140737488355328) (spec_l5Tx.l0 x0 x1 k t14.2 (a11 ++ ([(gt x1 t14.1).fRef] : List Ref)) (wrap64 (a12 + ((gt x1 t14.1).fOut.fValue))) (wrap64 (a13 - 1)))) else spec_l5Tx.l0 x0 x1 k t14.2 a11 a12 (wrap64 (a13 - 1)))))) else some (a10, a11, a12))
def spec_l5Tx.f (k : Nat) (x0 : l1Src) (x1 : List Coin) : Option (Tx × Int) := ((spec_l3Draw.f k x0).bind fun t16 => (((bif (decide (0 < (x1.length : Int))) then spec_l1Chance.f k (⟨x0.fCode, t16.2⟩ : l1Src) 8 else some (default, t16.2)).bind fun t17 => (bif ((decide (0 < (x1.length : Int))) && (!t17.1)) then (((spec_l1Next.f k (⟨x0.fCode, t17.2⟩ : l1Src) 2).bind fun t18 => spec_l5Tx.l0 x0 x1 k t18.2 ([] : List Ref) 0 (wrap64 (1 + t18.1))).bind (cur3 (fun a19 a20 a21 => ((spec_l1Chance.f k (⟨x0.fCode, a19⟩ : l1Src) 4).bind fun t22 => (bif ((!t22.1) && (decide (0 < a21))) then ((spec_l1Next.f k (⟨x0.fCode, t22.2⟩ : l1Src) 5).bind fun t23 => ((spec_l1Max.f k 1 (wrap64 (a21 - t23.1))).bind fun t24 => ((spec_l2Draw.f k (⟨x0.fCode, t23.2⟩ : l1Src)).bind fun t25 => (chk (!(t16.1.fKind == 1) || (idxOk (0 : Int) ([(⟨t24, (⟨t25.1.fKeys, t25.1.fNeed, t25.1.fAfter⟩ : Rule)⟩ : Out)] : List Out).length)) (bif ((t16.1.fKind == 1) && (decide (((gt ([(⟨t24, (⟨t25.1.fKeys, t25.1.fNeed, t25.1.fAfter⟩ : Rule)⟩ : Out)] : List Out) (0 : Int)).fValue) < 100))) then some (t25.2, 0, 0, a20, ([(⟨t24, (⟨t25.1.fKeys, t25.1.fNeed, t25.1.fAfter⟩ : Rule)⟩ : Out)] : List Out)) else some (t25.2, t16.1.fKind, t16.1.fMember, a20, ([(⟨t24, (⟨t25.1.fKeys, t25.1.fNeed, t25.1.fAfter⟩ : Rule)⟩ : Out)] : List Out))))))) else some (t22.2, t16.1.fKind, t16.1.fMember, a20, t16.1.fOuts)))))) else some (t17.2, t16.1.fKind, t16.1.fMember, t16.1.fIns, t16.1.fOuts))).bind (cur5 (fun a26 a27 a28 a29 a30 => some ((⟨a27, a28, a29, a30⟩ : Tx), a26)))))
theorem spec_l5Tx.calls {k : Nat} {x0 : l1Src} {x1 : List Coin} {b0 : Nat} {p0_0 : Value} {p1 : Value} {w wo : World} {X : List Nat} (hwo : Olds wo w X) (hX : Hold w [box b0 78 [p0_0, nI x0.fAt]] X) (hXn : X.Nodup) (hXl : ∀ b ∈ X, b < w.heap.size) (hp0_0 : RdS kU8 wo p0_0 x0.fCode) (hp1 : RdS kCoin wo p1 x1) {r : Tx × Int} (H : spec_l5Tx.f k x0 x1 = some r) :
  Calls Tryz.prog 71 ([pA b0 0, p1] : List Value).toArray w (fun e w_ => ∃ v, e = .returned v ∧ ∃ u0 : Value, ∃ u1 : Value, v = (.agg #[nI r.1.fKind, nI r.1.fMember, u0, u1]) ∧ Mem w X w_ [own kRef 38 u0 r.1.fIns, own kOut 68 u1 r.1.fOuts, box b0 78 [p0_0, nI r.2]]) := by
 have HM := Mem.startX hX hXn hXl
 refine calls_run (N := 83) Tryz.func71 rfl rfl rfl rfl ?_
 unfold spec_l5Tx.f at H
 refine run_seq (run_region rfl (oz rfl (does_alloc (cs := [nI 0, nI 0, .slice none 0 0, .slice none 0 0]) rfl tz28 rfl HM) ?_))
 rintro _ w31 ⟨b32, rfl, HM⟩
 refine ops_nil (at_then (run_seq ?_))
 obtain ⟨t16, h33, H⟩ := bind_some H
 refine run_region rfl (oM rfl ?_)
 replace HM := HM.fr1 1 rfl
 obtain ⟨F34, hF35, hFn36, hFl37, HMh38, hcl39⟩ := HM.hideN 1 rfl
 refine oz rfl (does_callk rfl callok78 rfl (spec_l3Draw.calls (x0 := x0) (hide_olds _ _) hF35 hFn36 hFl37 (HMh38.rdo hwo hp0_0) h33)) ?_
 rintro _ w40 ⟨u41, u42, rfl, hn⟩
 replace HM := hcl39 _ _ _ rfl hn
 refine oz rfl (does_alloc (cs := [nI 0, nI 0, .slice none 0 0, .slice none 0 0]) rfl tz28 rfl HM) ?_
 rintro _ w43 ⟨b44, rfl, HM⟩
 refine odS rfl rfl rfl (does_store (vs := [nI t16.1.fKind, nI t16.1.fMember, u41, u42]) (cs' := [nI t16.1.fKind, nI t16.1.fMember, u41, u42]) rfl rfl rfl rfl tsz28 (Ones.int (Ones.int (Ones.rd (HM.own_rd 1 rfl) (Ones.rd (HM.own_rd 2 rfl) Ones.nil)))) rfl rfl HM) ?_
 rintro w45 HM
 refine ops_nil (at_then ?_)
 obtain ⟨o46, ho47, H⟩ := bind_some H
 refine run_mid (fun ρ_ w_ => ∃ a26 : Int, ∃ a27 : Int, ∃ a28 : Int, ∃ v48 : Value, ∃ a29 : List Ref, ∃ v49 : Value, ∃ a30 : List Out, (a26, a27, a28, a29, a30) = o46 ∧ ρ_ = [(4, pA b32 0), (5, pA b44 0)] ∧ Mem w X w_ [box b0 78 [p0_0, nI a26], box b32 28 [nI 0, nI 0, .slice none 0 0, .slice none 0 0], box b44 28 [nI a27, nI a28, v48, v49], own kRef 38 v48 a29, own kOut 68 v49 a30]) ?_ ?_
 ·clear H
  refine run_seq ?_
  obtain ⟨t17, h50, ho47⟩ := bind_some ho47
  refine run_meet (fun ρ_ w_ => ρ_ = [(0, pA b0 0), (1, p1), (4, pA b32 0), (5, pA b44 0), (18, .bool ((decide (0 < (x1.length : Int))) && (!t17.1)))] ∧ Mem w X w_ [box b0 78 [p0_0, nI t17.2], box b32 28 [nI 0, nI 0, .slice none 0 0, .slice none 0 0], box b44 28 [nI t16.1.fKind, nI t16.1.fMember, u41, u42], own kRef 38 u41 t16.1.fIns, own kOut 68 u42 t16.1.fOuts]) ?_ ?_
  ·refine run_region rfl (oM rfl (oy rfl (ex_len (d := kCoin) (xs := x1) rfl rfl U24 hp1) (oy rfl (ex_gtr rfl rfl rfl) (oM rfl ?_))))
   refine bool_cases (decide (0 < (x1.length : Int))) (fun hg51 => ?_) (fun hg51 => ?_)
   ·refine gn rfl hg51 (ex_move rfl rfl) ?_
    replace HM := HM.fr1 3 rfl
    obtain ⟨F52, hF53, hFn54, hFl55, HMh56, hcl57⟩ := HM.hideN 1 rfl
    refine ops_does rfl (guard_on rfl rfl rfl hg51) rfl rfl (does_callk rfl callok75 rfl (spec_l1Chance.calls (x0 := (⟨x0.fCode, t16.2⟩ : l1Src)) (x1 := 8) (hide_olds _ _) hF53 hFn54 hFl55 (HMh56.rdo hwo hp0_0) (cond_t hg51 h50))) ?_
    rintro _ w58 ⟨rfl, hn⟩
    replace HM := hcl57 _ _ _ rfl hn
    refine gn rfl hg51 (ex_not rfl rfl) (ops_ex (v := .bool ((decide (0 < (x1.length : Int))) && (!t17.1))) rfl (guard_none rfl) rfl rfl (ex_pand_t rfl rfl hg51 rfl) (ops_nil ?_))
    replace HM := ((HM.fr1 3 rfl).fr1 3 rfl).fr1 3 rfl
    replace HM := (HM.fr1 4 rfl).fr1 4 rfl
    exact at_meet _ ⟨rfl, HM⟩ (Sub.of rfl)
   ·refine gf rfl hg51 (gf rfl hg51 ?_)
    have hq59 : t17 = (default, t16.2) := (sj (cond_f hg51 h50)).symm
    replace HM := HM.as (M' := [box b44 28 [nI t16.1.fKind, nI t16.1.fMember, u41, u42], own kRef 38 u41 t16.1.fIns, own kOut 68 u42 t16.1.fOuts, box b0 78 [p0_0, nI t17.2], box b32 28 [nI 0, nI 0, .slice none 0 0, .slice none 0 0]]) (by simp only [hq59])
    refine gf rfl hg51 ?_
    have hg60 : ((decide (0 < (x1.length : Int))) && (!t17.1)) = false := by simp only [hg51, Bool.and_true, Bool.true_and, Bool.and_false, Bool.false_and, Bool.or_true, Bool.true_or, Bool.or_false, Bool.false_or, Bool.not_true, Bool.not_false, Bool.not_not]
    refine ops_ex (v := .bool ((decide (0 < (x1.length : Int))) && (!t17.1))) rfl (guard_none rfl) rfl rfl (ex_pand_f rfl rfl hg51) (ops_nil ?_)
    replace HM := ((HM.fr1 2 rfl).fr1 2 rfl).fr1 2 rfl
    replace HM := (HM.fr1 4 rfl).fr1 4 rfl
    exact at_meet _ ⟨rfl, HM⟩ (Sub.of rfl)
  ·rintro _ w61 ⟨rfl, HM⟩
   refine at_then (run_cond (b := ((decide (0 < (x1.length : Int))) && (!t17.1))) rfl (fun hb62 => ?_) (fun hb62 => ?_))
   ·replace ho47 := cond_t hb62 ho47
    refine run_seq (run_region rfl (oy rfl (ex_fieldAddr (off' := 2) rfl rfl U28 rfl tsz25 rfl) ?_))
    replace HM := HM.fr1 2 rfl
    refine odS rfl rfl rfl (does_store (vs := [.slice none 0 0]) (cs' := [nI t16.1.fKind, nI t16.1.fMember, .slice none 0 0, u42]) rfl rfl rfl rfl tsz25 (Ones.sl Ones.nil) rfl rfl HM) ?_
    rintro w63 HM
    refine ops_nil (at_then (run_seq (run_region rfl (oM rfl (ops_nil (at_then ?_))))))
    obtain ⟨o64, ho65, ho47⟩ := bind_some ho47
    refine run_mid (fun ρ_ w_ => ∃ a19 : Int, ∃ v66 : Value, ∃ a20 : List Ref, ∃ a21 : Int, (a19, a20, a21) = o64 ∧ ρ_ = [(0, pA b0 0), (4, pA b32 0), (5, pA b44 0), (6, nI a21)] ∧ Mem w X w_ [box b0 78 [p0_0, nI a19], box b32 28 [nI 0, nI 0, .slice none 0 0, .slice none 0 0], box b44 28 [nI t16.1.fKind, nI t16.1.fMember, v66, u42], own kRef 38 v66 a20, own kOut 68 u42 t16.1.fOuts]) ?_ ?_
    ·clear ho47
     refine run_seq ?_
     obtain ⟨t18, h67, ho65⟩ := bind_some ho65
     refine run_region rfl (oM rfl ?_)
     replace HM := HM.fr1 1 rfl
     obtain ⟨F68, hF69, hFn70, hFl71, HMh72, hcl73⟩ := HM.hideN 1 rfl
     refine oz rfl (does_callk rfl callok16 rfl (spec_l1Next.calls (x0 := (⟨x0.fCode, t17.2⟩ : l1Src)) (x1 := 2) (hide_olds _ _) hF69 hFn70 hFl71 (HMh72.rdo hwo hp0_0) h67)) ?_
     rintro _ w74 ⟨rfl, hn⟩
     replace HM := hcl73 _ _ _ rfl hn
     refine oy rfl (ex_add rfl rfl rfl) (oM rfl (ops_nil (at_then (run_block ?_))))
     replace HM := ((HM.empty kRef 38 none).frd 4 rfl).fr1 4 rfl
     replace HM := ((HM.fr1 1 rfl).fr1 3 rfl).fr1 4 rfl
     replace HM := HM.fr1 4 rfl
     refine run_loop (fun k_ ρ_ w_ => ∃ a10 : Int, ∃ v75 : Value, ∃ a11 : List Ref, ∃ a12 : Int, ∃ a13 : Int, spec_l5Tx.l0 x0 x1 k_ a10 a11 a12 a13 = some o64 ∧ ρ_ = [(0, pA b0 0), (1, p1), (4, pA b32 0), (5, pA b44 0), (6, nI a12), (7, nI a13)] ∧ Mem w X w_ [box b0 78 [p0_0, nI a10], box b32 28 [nI 0, nI 0, .slice none 0 0, .slice none 0 0], box b44 28 [nI t16.1.fKind, nI t16.1.fMember, v75, u42], own kRef 38 v75 a11, own kOut 68 u42 t16.1.fOuts]) k ⟨_, _, _, _, _, ho65, rfl, HM⟩ (Sub.of rfl) ?_
     clear HM ho65
     rintro k76 _ w77 ⟨a10, v75, a11, a12, a13, ho65, rfl, HM⟩
     obtain _ | k76 := k76
     ·exact nomatch ((spec_l5Tx.l0.eq_1 x0 x1 a10 a11 a12 a13).symm.trans ho65)
     replace ho65 := (spec_l5Tx.l0.eq_2 ..).symm.trans ho65
     refine run_seq (run_seq (run_region rfl (oM rfl (oy rfl (ex_gtr rfl rfl rfl) (ops_nil (at_then (run_cond (b := (decide (0 < a13))) rfl (fun hb78 => ?_) (fun hb78 => ?_))))))))
     ·replace ho65 := cond_t hb78 ho65
      refine run_skip (at_then (run_seq (run_block (run_seq ?_))))
      obtain ⟨t14, h79, ho65⟩ := bind_some ho65
      obtain ⟨e80, ho65⟩ := chk_some ho65
      refine run_region rfl (oM rfl (oM rfl (oM rfl (oy rfl (ex_len (d := kCoin) (xs := x1) rfl rfl U24 hp1) ?_))))
      obtain ⟨F81, hF82, hFn83, hFl84, HMh85, hcl86⟩ := HM.hideN 1 rfl
      refine oz rfl (does_callk rfl callok16 rfl (spec_l1Next.calls (x0 := (⟨x0.fCode, a10⟩ : l1Src)) (x1 := (x1.length : Int)) (hide_olds _ _) hF82 hFn83 hFl84 (HMh85.rdo hwo hp0_0) h79)) ?_
      rintro _ w87 ⟨rfl, hn⟩
      replace HM := hcl86 _ _ _ rfl hn
      obtain ⟨kv88, hc89, hk90⟩ := rd_with1 hp1 e80
      refine oy rfl (ex_indexAddr (d := kCoin) rfl rfl rfl U24 tsz70 hp1 (idx_lo e80) (idx_hi e80)) (oy rfl (ldN rfl rfl U70 rfl tsz70 ((HM.ato hwo hc89).subL 0 8 rfl) rfl) (oz rfl (does_alloc (cs := [nI 0, nI 0, nI 0, .slice none 0 0, nI 0, nI 0, nI 0, .bool false]) rfl tz70 rfl HM) ?_))
      rintro _ w91 ⟨b92, rfl, HM⟩
      refine odS rfl rfl rfl (does_store (vs := [nI ((gt x1 t14.1).fRef.fTx), nI ((gt x1 t14.1).fRef.fAt), nI ((gt x1 t14.1).fOut.fValue), kv88, nI ((gt x1 t14.1).fOut.fRule.fNeed), nI ((gt x1 t14.1).fOut.fRule.fAfter), nI ((gt x1 t14.1).fHeight), .bool ((gt x1 t14.1).fMined)]) (cs' := [nI ((gt x1 t14.1).fRef.fTx), nI ((gt x1 t14.1).fRef.fAt), nI ((gt x1 t14.1).fOut.fValue), kv88, nI ((gt x1 t14.1).fOut.fRule.fNeed), nI ((gt x1 t14.1).fOut.fRule.fAfter), nI ((gt x1 t14.1).fHeight), .bool ((gt x1 t14.1).fMined)]) rfl rfl rfl rfl tsz70 (Ones.int (Ones.int (Ones.int (Ones.rd hk90 (Ones.int (Ones.int (Ones.int (Ones.bool Ones.nil)))))))) rfl rfl HM) ?_
      rintro w93 HM
      refine ops_nil (at_then (run_seq ?_))
      obtain ⟨t15, h94, ho65⟩ := bind_some ho65
      refine run_region rfl (oy rfl (ex_fieldAddr (off' := 2) rfl rfl U28 rfl tsz25 rfl) (oy rfl (ex_load1 rfl rfl U25 rfl ((HM.box_at 3 rfl) 2 _ rfl)) (oy rfl (ex_fieldAddr (off' := 0) rfl rfl U70 rfl tsz38 rfl) (oy rfl (ldN rfl rfl U38 rfl tsz38 ((HM.box_at 0 rfl).subL 0 2 rfl) rfl) (oz rfl (does_callk rfl callok87 rfl (spec_l3Among.calls (x0 := a11) (x1 := (gt x1 t14.1).fRef) (HM.own_rd 4 rfl) h94)) ?_)))))
      rintro _ w95 ⟨rfl, hn⟩
      replace HM := HM.callN hn rfl
      refine oy rfl (ex_not rfl rfl) (ops_nil (at_then (run_cond (b := !t15) rfl (fun hb96 => ?_) (fun hb96 => ?_))))
      ·replace ho65 := cond_t hb96 ho65
       refine run_seq ?_
       obtain ⟨e97, ho65⟩ := chk_some ho65
       refine run_region rfl (oy rfl (ex_fieldAddr (off' := 2) rfl rfl U28 rfl tsz25 rfl) (oy rfl (ex_load1 rfl rfl U25 rfl ((HM.box_at 3 rfl) 2 _ rfl)) (oy rfl (ex_fieldAddr (off' := 0) rfl rfl U70 rfl tsz38 rfl) (oy rfl (ldN rfl rfl U38 rfl tsz38 ((HM.box_at 0 rfl).subL 0 2 rfl) rfl) (oz rfl (does_lit (e := 38) (cs := [nI ((gt x1 t14.1).fRef.fTx), nI ((gt x1 t14.1).fRef.fAt)]) (xs := ([(gt x1 t14.1).fRef] : List Ref)) kRef rfl rfl (fun _ => by kernel_rfl) rfl rfl (fun _ _ h => by have h' : _ = [] := h; subst h'; exact (Elems.cons (d := kRef) (x := (gt x1 t14.1).fRef) (f := []) ⟨rfl, rfl⟩ .nil)) HM.emp) ?_)))))
       rintro v98 w99 HM
       replace HM := HM.fr1 5 rfl
       refine oz rfl (does_appendR kRef flat_plain rfl rfl rfl U25 tsz38 rfl tby38 tz38 rfl rfl (leB_le e97) (HM.own_rd 1 rfl) HM) ?_
       rintro v100 w101 HM
       refine oy rfl (ex_fieldAddr (off' := 2) rfl rfl U28 rfl tsz25 rfl) ?_
       replace HM := HM.fr1 5 rfl
       refine odS rfl rfl rfl (does_store (vs := [v100]) (cs' := [nI t16.1.fKind, nI t16.1.fMember, v100, u42]) rfl rfl rfl (rd_cells (HM.own_rd 1 rfl)) tsz25 (Ones.rd (HM.own_rd 1 rfl) Ones.nil) rfl rfl HM) ?_
       rintro w102 HM
       refine ops_nil (at_then (run_region rfl (oM rfl (oy rfl (ex_fieldAddr (off' := 2) rfl rfl U70 rfl tsz68 rfl) (oy rfl (ex_fieldAddr (off' := 2) rfl rfl U68 rfl tsz2 rfl) (oy rfl (ex_load1 rfl rfl U2 rfl ((HM.box_at 3 rfl) 2 _ rfl)) (oy rfl (ex_add rfl rfl rfl) (oM rfl (ops_nil (at_block ?_))))))))))
       refine at_then (run_region rfl (oM rfl (oy rfl (ex_sub rfl rfl rfl) (oM rfl (ops_nil ?_)))))
       replace HM := ((HM.frd 2 rfl).frd 2 rfl).fr1 4 rfl
       replace HM := ((HM.fr1 2 rfl).fr1 2 rfl).fr1 4 rfl
       replace HM := HM.fr1 4 rfl
       exact at_again k76 (Nat.lt_succ_self _) ⟨_, _, _, _, _, ho65, rfl, HM⟩ (Sub.of rfl)
      ·replace ho65 := cond_f hb96 ho65
       refine run_skip (at_block (at_then (run_region rfl (oM rfl (oy rfl (ex_sub rfl rfl rfl) (oM rfl (ops_nil ?_)))))))
       replace HM := HM.frd 0 rfl
       exact at_again k76 (Nat.lt_succ_self _) ⟨_, _, _, _, _, ho65, rfl, HM⟩ (Sub.of rfl)
     ·replace ho65 := cond_f hb78 ho65
      exact run_exit (at_then_exit (at_then_exit (at_block_exit (at_mid ⟨_, _, _, _, (sj ho65), rfl, HM⟩ (Sub.of rfl)))))
    ·rintro _ w103 ⟨a19, v66, a20, a21, rfl, rfl, HM⟩
     replace ho47 := cur3_mk ho47
     refine run_seq ?_
     obtain ⟨t22, h104, ho47⟩ := bind_some ho47
     refine run_meet (fun ρ_ w_ => ρ_ = [(0, pA b0 0), (4, pA b32 0), (5, pA b44 0), (6, nI a21), (58, .bool ((!t22.1) && (decide (0 < a21))))] ∧ Mem w X w_ [box b0 78 [p0_0, nI t22.2], box b32 28 [nI 0, nI 0, .slice none 0 0, .slice none 0 0], box b44 28 [nI t16.1.fKind, nI t16.1.fMember, v66, u42], own kRef 38 v66 a20, own kOut 68 u42 t16.1.fOuts]) ?_ ?_
     ·refine run_region rfl (oM rfl ?_)
      obtain ⟨F105, hF106, hFn107, hFl108, HMh109, hcl110⟩ := HM.hideN 1 rfl
      refine oz rfl (does_callk rfl callok75 rfl (spec_l1Chance.calls (x0 := (⟨x0.fCode, a19⟩ : l1Src)) (x1 := 4) (hide_olds _ _) hF106 hFn107 hFl108 (HMh109.rdo hwo hp0_0) h104)) ?_
      rintro _ w111 ⟨rfl, hn⟩
      replace HM := hcl110 _ _ _ rfl hn
      refine oy rfl (ex_not rfl rfl) (oM rfl ?_)
      refine bool_cases (!t22.1) (fun hg112 => ?_) (fun hg112 => ?_)
      ·exact gn rfl hg112 (ex_move rfl rfl) (gn rfl hg112 (ex_gtr rfl rfl rfl) (ops_ex (v := .bool ((!t22.1) && (decide (0 < a21)))) rfl (guard_none rfl) rfl rfl (ex_pand_t rfl rfl hg112 rfl) (ops_nil (at_meet _ ⟨rfl, HM⟩ (Sub.of rfl)))))
      ·refine gf rfl hg112 (gf rfl hg112 ?_)
       have hg113 : ((!t22.1) && (decide (0 < a21))) = false := by simp only [hg112, Bool.and_true, Bool.true_and, Bool.and_false, Bool.false_and, Bool.or_true, Bool.true_or, Bool.or_false, Bool.false_or, Bool.not_true, Bool.not_false, Bool.not_not]
       exact ops_ex (v := .bool ((!t22.1) && (decide (0 < a21)))) rfl (guard_none rfl) rfl rfl (ex_pand_f rfl rfl hg112) (ops_nil (at_meet _ ⟨rfl, HM⟩ (Sub.of rfl)))
     ·rintro _ w114 ⟨rfl, HM⟩
      refine at_then (run_cond (b := ((!t22.1) && (decide (0 < a21)))) rfl (fun hb115 => ?_) (fun hb115 => ?_))
      ·replace ho47 := cond_t hb115 ho47
       refine run_seq ?_
       obtain ⟨t23, h116, ho47⟩ := bind_some ho47
       obtain ⟨t24, h117, ho47⟩ := bind_some ho47
       obtain ⟨t25, h118, ho47⟩ := bind_some ho47
       refine run_region rfl (oM rfl (oM rfl ?_))
       obtain ⟨F119, hF120, hFn121, hFl122, HMh123, hcl124⟩ := HM.hideN 1 rfl
       refine oz rfl (does_callk rfl callok16 rfl (spec_l1Next.calls (x0 := (⟨x0.fCode, t22.2⟩ : l1Src)) (x1 := 5) (hide_olds _ _) hF120 hFn121 hFl122 (HMh123.rdo hwo hp0_0) h116)) ?_
       rintro _ w125 ⟨rfl, hn⟩
       replace HM := hcl124 _ _ _ rfl hn
       refine oy rfl (ex_sub rfl rfl rfl) (oz rfl (does_callk rfl callok105 rfl (spec_l1Max.calls (x0 := 1) (x1 := wrap64 (a21 - t23.1)) h117)) ?_)
       rintro _ w126 ⟨rfl, hn⟩
       replace HM := HM.callN hn rfl
       refine oM rfl ?_
       obtain ⟨F127, hF128, hFn129, hFl130, HMh131, hcl132⟩ := HM.hideN 1 rfl
       refine oz rfl (does_callk rfl callok106 rfl (spec_l2Draw.calls (x0 := (⟨x0.fCode, t23.2⟩ : l1Src)) (hide_olds _ _) hF128 hFn129 hFl130 (HMh131.rdo hwo hp0_0) h118)) ?_
       rintro _ w133 ⟨u134, rfl, hn⟩
       replace HM := hcl132 _ _ _ rfl hn
       refine oy rfl (ex_build1 (fun u134 => [(0, nI t24), (1, .agg #[u134, (nI t25.1.fNeed), (nI t25.1.fAfter)])]) (fun u134 => #[nI t24, u134, nI t25.1.fNeed, nI t25.1.fAfter]) rfl rfl (fun _ _ _ => by kernel_rfl) (HM.own_rd 0 rfl).isSl) ?_
       refine oz rfl (does_lit (e := 68) (cs := [(nI t24), u134, (nI t25.1.fNeed), (nI t25.1.fAfter)]) (xs := ([(⟨t24, (⟨t25.1.fKeys, t25.1.fNeed, t25.1.fAfter⟩ : Rule)⟩ : Out)] : List Out)) kOut rfl rfl (fun _ => by kernel_rfl) rfl rfl (fun _ _ h => by have := Elems.cons (d := kOut) (x := (⟨t24, (⟨t25.1.fKeys, t25.1.fNeed, t25.1.fAfter⟩ : Rule)⟩ : Out)) ⟨_, rfl, h⟩ .nil; rw [List.append_nil, List.append_nil] at this; exact this) HM) ?_
       rintro v135 w136 HM
       refine oy rfl (ex_fieldAddr (off' := 3) rfl rfl U28 rfl tsz26 rfl) ?_
       replace HM := HM.fr1 3 rfl
       refine odS rfl rfl rfl (does_store (vs := [v135]) (cs' := [nI t16.1.fKind, nI t16.1.fMember, v66, v135]) rfl rfl rfl (rd_cells (HM.own_rd 1 rfl)) tsz26 (Ones.rd (HM.own_rd 1 rfl) Ones.nil) rfl rfl HM) ?_
       rintro w137 HM
       refine ops_nil (at_then (run_seq ?_))
       obtain ⟨e138, ho47⟩ := chk_some ho47
       refine run_meet (fun ρ_ w_ => ρ_ = [(4, pA b32 0), (5, pA b44 0), (79, .bool ((t16.1.fKind == 1) && (decide (((gt ([(⟨t24, (⟨t25.1.fKeys, t25.1.fNeed, t25.1.fAfter⟩ : Rule)⟩ : Out)] : List Out) (0 : Int)).fValue) < 100))))] ∧ Mem w X w_ [box b0 78 [p0_0, nI t25.2], box b32 28 [nI 0, nI 0, .slice none 0 0, .slice none 0 0], box b44 28 [nI t16.1.fKind, nI t16.1.fMember, v66, v135], own kRef 38 v66 a20, own kOut 68 v135 ([(⟨t24, (⟨t25.1.fKeys, t25.1.fNeed, t25.1.fAfter⟩ : Rule)⟩ : Out)] : List Out)]) ?_ ?_
       ·refine run_region rfl (oy rfl (ex_fieldAddr (off' := 0) rfl rfl U28 rfl tsz2 rfl) (oy rfl (ex_load1 rfl rfl U2 rfl ((HM.box_at 0 rfl) 0 _ rfl)) (oy rfl (ex_eql rfl rfl rfl) (oM rfl ?_))))
        refine bool_cases (t16.1.fKind == 1) (fun hg139 => ?_) (fun hg139 => ?_)
        ·refine gn rfl hg139 (ex_fieldAddr (off' := 3) rfl rfl U28 rfl tsz26 rfl) (gn rfl hg139 (ex_load1 rfl rfl U26 rfl ((HM.box_at 0 rfl) 3 _ rfl)) (gn rfl hg139 (ex_indexAddr (d := kOut) rfl rfl rfl U26 tsz68 (HM.own_rd 1 rfl) (idx_lo (or_t e138 hg139)) (idx_hi (or_t e138 hg139))) (gn rfl hg139 (ex_fieldAddr (off' := so v135 + ((0 : Int)).toNat * 4) rfl rfl U68 rfl tsz2 rfl) (gn rfl hg139 (let ⟨_, hc_, _⟩ := rd_with1 (HM.own_rd 1 rfl) (or_t e138 hg139); ex_load1 rfl rfl U2 rfl (hc_ 0 _ rfl)) (gn rfl hg139 (ex_lss rfl rfl rfl) (ops_ex (v := .bool ((t16.1.fKind == 1) && (decide (((gt ([(⟨t24, (⟨t25.1.fKeys, t25.1.fNeed, t25.1.fAfter⟩ : Rule)⟩ : Out)] : List Out) (0 : Int)).fValue) < 100)))) rfl (guard_none rfl) rfl rfl (ex_pand_t rfl rfl hg139 rfl) (ops_nil ?_)))))))
         replace HM := ((HM.frd 5 rfl).fr1 1 rfl).fr1 4 rfl
         replace HM := ((HM.fr1 2 rfl).fr1 4 rfl).fr1 4 rfl
         exact at_meet _ ⟨rfl, HM⟩ (Sub.of rfl)
        ·refine gf rfl hg139 (gf rfl hg139 (gf rfl hg139 (gf rfl hg139 (gf rfl hg139 (gf rfl hg139 ?_)))))
         have hg140 : ((t16.1.fKind == 1) && (decide (((gt ([(⟨t24, (⟨t25.1.fKeys, t25.1.fNeed, t25.1.fAfter⟩ : Rule)⟩ : Out)] : List Out) (0 : Int)).fValue) < 100))) = false := by simp only [hg139, Bool.and_true, Bool.true_and, Bool.and_false, Bool.false_and, Bool.or_true, Bool.true_or, Bool.or_false, Bool.false_or, Bool.not_true, Bool.not_false, Bool.not_not]
         refine ops_ex (v := .bool ((t16.1.fKind == 1) && (decide (((gt ([(⟨t24, (⟨t25.1.fKeys, t25.1.fNeed, t25.1.fAfter⟩ : Rule)⟩ : Out)] : List Out) (0 : Int)).fValue) < 100)))) rfl (guard_none rfl) rfl rfl (ex_pand_f rfl rfl hg139) (ops_nil ?_)
         replace HM := ((HM.frd 5 rfl).fr1 1 rfl).fr1 4 rfl
         replace HM := ((HM.fr1 2 rfl).fr1 4 rfl).fr1 4 rfl
         exact at_meet _ ⟨rfl, HM⟩ (Sub.of rfl)
       ·rintro _ w141 ⟨rfl, HM⟩
        refine at_then (run_cond (b := ((t16.1.fKind == 1) && (decide (((gt ([(⟨t24, (⟨t25.1.fKeys, t25.1.fNeed, t25.1.fAfter⟩ : Rule)⟩ : Out)] : List Out) (0 : Int)).fValue) < 100)))) rfl (fun hb142 => ?_) (fun hb142 => ?_))
        ·replace ho47 := cond_t hb142 ho47
         refine run_seq (run_region rfl (oy rfl (ex_fieldAddr (off' := 0) rfl rfl U28 rfl tsz2 rfl) ?_))
         replace HM := HM.fr1 2 rfl
         refine odS rfl rfl rfl (does_store (vs := [nI 0]) (cs' := [nI 0, nI t16.1.fMember, v66, v135]) rfl rfl rfl rfl tsz2 (Ones.int Ones.nil) rfl rfl HM) ?_
         rintro w143 HM
         refine ops_nil (at_then (run_region rfl (oy rfl (ex_fieldAddr (off' := 1) rfl rfl U28 rfl tsz2 rfl) (odS rfl rfl rfl (does_store (vs := [nI 0]) (cs' := [nI 0, nI 0, v66, v135]) rfl rfl rfl rfl tsz2 (Ones.int Ones.nil) rfl rfl HM) ?_))))
         rintro w144 HM
         refine ops_nil ?_
         replace HM := ((HM.fr1 4 rfl).fr1 4 rfl).fr1 2 rfl
         replace HM := (HM.fr1 4 rfl).fr1 4 rfl
         exact at_mid ⟨_, _, _, _, _, _, _, (sj ho47), rfl, HM⟩ (Sub.of rfl)
        ·replace ho47 := cond_f hb142 ho47
         exact run_skip (at_mid ⟨_, _, _, _, _, _, _, (sj ho47), rfl, HM⟩ (Sub.of rfl))
      ·replace ho47 := cond_f hb115 ho47
       exact run_skip (at_mid ⟨_, _, _, _, _, _, _, (sj ho47), rfl, HM⟩ (Sub.of rfl))
   ·replace ho47 := cond_f hb62 ho47
    exact run_skip (at_mid ⟨_, _, _, _, _, _, _, (sj ho47), rfl, HM⟩ (Sub.of rfl))
 ·rintro _ w145 ⟨a26, a27, a28, v48, a29, v49, a30, rfl, rfl, HM⟩
  replace H := cur5_mk H
  refine run_seq (run_region rfl (oy rfl (ldN rfl rfl U28 rfl tsz28 ((HM.box_at 2 rfl).subL 0 4 rfl) rfl) ?_))
  replace HM := HM.fr1 1 rfl
  refine odS rfl rfl rfl (does_store (vs := [nI a27, nI a28, v48, v49]) (cs' := [nI a27, nI a28, v48, v49]) rfl rfl rfl rfl tsz28 (Ones.int (Ones.int (Ones.rd (HM.own_rd 3 rfl) (Ones.rd (HM.own_rd 4 rfl) Ones.nil)))) rfl rfl HM) ?_
  rintro w146 HM
  refine ops_nil (at_then (run_ret ?_))
  replace HM := ((HM.frd 2 rfl).fr1 1 rfl).fr1 3 rfl
  replace HM := (HM.fr1 3 rfl).fr1 3 rfl
  have hcb0 := HM.box_at 0 rfl
  replace HM := HM.frd 0 rfl
  cases H
  exact at_retN rfl rfl U28 rfl tsz28 rfl hcb0 ⟨_, rfl, _, _, rfl, HM⟩

def spec_l1Word.f (k : Nat) (x0 : l1Src) : Option (ByteArray × Int) := ((spec_l1Next.f k x0 5).bind fun t10 => (chk (idxOk t10.1 ([(⟨#[97]⟩ : ByteArray), (⟨#[98]⟩ : ByteArray), (⟨#[99, 99]⟩ : ByteArray), (⟨#[120, 32, 121]⟩ : ByteArray), (⟨#[112, 97, 121, 32, 49]⟩ : ByteArray)] : List ByteArray).length) (some ((gt ([(⟨#[97]⟩ : ByteArray), (⟨#[98]⟩ : ByteArray), (⟨#[99, 99]⟩ : ByteArray), (⟨#[120, 32, 121]⟩ : ByteArray), (⟨#[112, 97, 121, 32, 49]⟩ : ByteArray)] : List ByteArray) t10.1), t10.2))))
theorem spec_l1Word.calls {k : Nat} {x0 : l1Src} {b0 : Nat} {p0_0 : Value} {w wo : World} {X : List Nat} (hwo : Olds wo w X) (hX : Hold w [box b0 78 [p0_0, nI x0.fAt]] X) (hXn : X.Nodup) (hXl : ∀ b ∈ X, b < w.heap.size) (hp0_0 : RdS kU8 wo p0_0 x0.fCode) {r : ByteArray × Int} (H : spec_l1Word.f k x0 = some r) :
  Calls Tryz.prog 73 ([pA b0 0] : List Value).toArray w (fun e w_ => ∃ v, e = .returned v ∧ v = (.string r.1) ∧ Mem w X w_ [box b0 78 [p0_0, nI r.2]]) := by
 have HM := Mem.startX hX hXn hXl
 refine calls_run (N := 8) Tryz.func73 rfl rfl rfl rfl ?_
 unfold spec_l1Word.f at H
 refine run_seq (run_region rfl (oM rfl (ops_nil (at_then (run_seq ?_)))))
 obtain ⟨t10, h11, H⟩ := bind_some H
 obtain ⟨e12, H⟩ := chk_some H
 refine run_region rfl (oz rfl (does_lit (e := 9) (cs := [.string (⟨#[97]⟩ : ByteArray), .string (⟨#[98]⟩ : ByteArray), .string (⟨#[99, 99]⟩ : ByteArray), .string (⟨#[120, 32, 121]⟩ : ByteArray), .string (⟨#[112, 97, 121, 32, 49]⟩ : ByteArray)]) (xs := ([(⟨#[97]⟩ : ByteArray), (⟨#[98]⟩ : ByteArray), (⟨#[99, 99]⟩ : ByteArray), (⟨#[120, 32, 121]⟩ : ByteArray), (⟨#[112, 97, 121, 32, 49]⟩ : ByteArray)] : List ByteArray)) kStr rfl rfl (fun _ => by kernel_rfl) rfl rfl (fun _ _ h => by have h' : _ = [] := h; subst h'; exact (Elems.cons (d := kStr) (x := (⟨#[97]⟩ : ByteArray)) (f := []) ⟨rfl, rfl⟩ (Elems.cons (d := kStr) (x := (⟨#[98]⟩ : ByteArray)) (f := []) ⟨rfl, rfl⟩ (Elems.cons (d := kStr) (x := (⟨#[99, 99]⟩ : ByteArray)) (f := []) ⟨rfl, rfl⟩ (Elems.cons (d := kStr) (x := (⟨#[120, 32, 121]⟩ : ByteArray)) (f := []) ⟨rfl, rfl⟩ (Elems.cons (d := kStr) (x := (⟨#[112, 97, 121, 32, 49]⟩ : ByteArray)) (f := []) ⟨rfl, rfl⟩ .nil)))))) HM.emp) ?_)
 rintro v13 w14 HM
 refine oM rfl ?_
 replace HM := HM.fr1 1 rfl
 obtain ⟨F15, hF16, hFn17, hFl18, HMh19, hcl20⟩ := HM.hideN 1 rfl
 refine oz rfl (does_callk rfl callok16 rfl (spec_l1Next.calls (x0 := x0) (x1 := 5) (hide_olds _ _) hF16 hFn17 hFl18 (HMh19.rdo hwo hp0_0) h11)) ?_
 rintro _ w21 ⟨rfl, hn⟩
 replace HM := hcl20 _ _ _ rfl hn
 refine oy rfl (ex_indexAddr (d := kStr) rfl rfl rfl U43 tsz9 (HM.own_rd 1 rfl) (idx_lo e12) (idx_hi e12)) (oy rfl (ex_load1 rfl rfl U9 rfl ((rd_plain (HM.own_rd 1 rfl) e12) 0 _ rfl)) (oM rfl (ops_nil (at_then (run_ret ?_)))))
 replace HM := HM.frd 1 rfl
 cases H
 exact at_ret1 rfl rfl ⟨_, rfl, rfl, HM⟩

def spec_l1At.l0 (x0 : List ByteArray) (x1 : ByteArray) : Nat → Int → Option (Int ⊕ Unit)
 | 0, _ => none
 | k + 1, a10 => (bif (decide (a10 < (x0.length : Int))) then (chk (idxOk a10 x0.length) (bif (sEq (gt x0 a10) x1) then some (.inl (wrap64 (a10 + 1))) else spec_l1At.l0 x0 x1 k (wrap64 (a10 + 1)))) else some (.inr ()))
def spec_l1At.f (k : Nat) (x0 : List ByteArray) (x1 : ByteArray) : Option Int := ((spec_l1At.l0 x0 x1 k 0).bind fun o11 => thn o11 (fun r => some r) (fun _ => some 0))
theorem spec_l1At.calls {k : Nat} {x0 : List ByteArray} {x1 : ByteArray} {p0 : Value} {w : World} (hp0 : RdS kStr w p0 x0) {r : Int} (H : spec_l1At.f k x0 x1 = some r) :
  Calls Tryz.prog 109 ([p0, .string x1] : List Value).toArray w (fun e w_ => ∃ v, e = .returned v ∧ v = (nI r) ∧ Mem w [] w_ []) := by
 have HM := Mem.start w
 refine calls_run (N := 20) Tryz.func109 rfl rfl rfl rfl ?_
 unfold spec_l1At.f at H
 refine run_seq (run_region rfl (oM rfl (ops_nil (at_then ?_))))
 obtain ⟨o11, ho12, H⟩ := bind_some H
 refine run_mid (fun ρ_ w_ => Sum.inr () = o11 ∧ ρ_ = [] ∧ Mem w [] w_ []) ?_ ?_
 ·refine run_seq (run_region rfl (oM rfl (ops_nil (at_then (run_block ?_)))))
  refine run_loop (fun k_ ρ_ w_ => ∃ a10 : Int, spec_l1At.l0 x0 x1 k_ a10 = some o11 ∧ ρ_ = [(0, p0), (1, .string x1), (5, nI a10)] ∧ Mem w [] w_ []) k ⟨_, ho12, rfl, HM⟩ (Sub.of rfl) ?_
  clear HM ho12
  rintro k13 _ w14 ⟨a10, ho12, rfl, HM⟩
  obtain _ | k13 := k13
  ·exact nomatch ((spec_l1At.l0.eq_1 x0 x1 a10).symm.trans ho12)
  replace ho12 := (spec_l1At.l0.eq_2 ..).symm.trans ho12
  refine run_seq (run_seq (run_region rfl (oM rfl (oM rfl (oy rfl (ex_len (d := kStr) (xs := x0) rfl rfl U43 hp0) (oy rfl (ex_lss rfl rfl rfl) (ops_nil (at_then (run_cond (b := (decide (a10 < (x0.length : Int)))) rfl (fun hb15 => ?_) (fun hb15 => ?_))))))))))
  ·replace ho12 := cond_t hb15 ho12
   refine run_skip (at_then (run_seq (run_block (run_seq ?_))))
   obtain ⟨e16, ho12⟩ := chk_some ho12
   refine run_region rfl (oM rfl (oM rfl ?_))
   have hc17 : CellsAt _ (sb p0) (so p0 + (a10).toNat * 1) [(.string (gt x0 a10))] := rd_plain hp0 e16
   refine oy rfl (ex_indexAddr (d := kStr) rfl rfl rfl U43 tsz9 hp0 (idx_lo e16) (idx_hi e16)) (oy rfl (ex_load1 rfl rfl U9 rfl ((HM.at_ hc17) 0 _ rfl)) (oM rfl (oy rfl (ex_seql rfl rfl rfl) (ops_nil (at_then (run_cond (b := (sEq (gt x0 a10) x1)) rfl (fun hb18 => ?_) (fun hb18 => ?_)))))))
   ·replace ho12 := cond_t hb18 ho12
    refine run_seq (run_region rfl (oM rfl (oy rfl (ex_add rfl rfl rfl) (oM rfl (ops_nil (at_then (run_ret (at_block_ret (at_then_ret (at_then_ret ?_))))))))))
    refine at_block_ret (at_then_ret ?_)
    cases ho12
    have hT := thn_inl H
    cases hT
    exact at_ret1 rfl rfl ⟨_, rfl, rfl, HM⟩
   ·replace ho12 := cond_f hb18 ho12
    exact run_skip (at_block (at_then (run_region rfl (oM rfl (oy rfl (ex_add rfl rfl rfl) (oM rfl (ops_nil (at_again k13 (Nat.lt_succ_self _) ⟨_, ho12, rfl, HM⟩ (Sub.of rfl)))))))))
  ·replace ho12 := cond_f hb15 ho12
   exact run_exit (at_then_exit (at_then_exit (at_block_exit (at_mid ⟨(sj ho12), rfl, HM⟩ Sub.nil))))
 ·rintro _ w19 ⟨rfl, rfl, HM⟩
  replace H := (thn_inr H)
  refine run_seq (run_region rfl (oM rfl (ops_nil (at_then (run_ret ?_)))))
  cases H
  exact at_ret1 rfl rfl ⟨_, rfl, rfl, HM⟩

def spec_l1Signed.l0 (x0 : List Sign) (x1 : Sign) : Nat → Int → Option (Bool ⊕ Unit)
 | 0, _ => none
 | k + 1, a10 => (bif (decide (a10 < (x0.length : Int))) then (chk (idxOk a10 x0.length) (bif ((((gt x0 a10).fKey) == x1.fKey) && (((gt x0 a10).fId) == x1.fId)) then some (.inl true) else spec_l1Signed.l0 x0 x1 k (wrap64 (a10 + 1)))) else some (.inr ()))
def spec_l1Signed.f (k : Nat) (x0 : List Sign) (x1 : Sign) : Option Bool := ((spec_l1Signed.l0 x0 x1 k 0).bind fun o11 => thn o11 (fun r => some r) (fun _ => some false))
theorem spec_l1Signed.calls {k : Nat} {x0 : List Sign} {x1 : Sign} {p0 : Value} {w : World} (hp0 : RdS kSign w p0 x0) {r : Bool} (H : spec_l1Signed.f k x0 x1 = some r) :
  Calls Tryz.prog 112 ([p0, .agg #[(nI x1.fKey), (nI x1.fId)]] : List Value).toArray w (fun e w_ => ∃ v, e = .returned v ∧ v = (.bool r) ∧ Mem w [] w_ []) := by
 have HM := Mem.start w
 refine calls_run (N := 18) Tryz.func112 rfl rfl rfl rfl ?_
 unfold spec_l1Signed.f at H
 refine run_seq (run_region rfl (oz rfl (does_box (cs := [nI x1.fKey, nI x1.fId]) rfl rfl rfl HM) ?_))
 rintro _ w12 ⟨b13, rfl, HM⟩
 refine oM rfl (ops_nil (at_then ?_))
 obtain ⟨o11, ho14, H⟩ := bind_some H
 refine run_mid (fun ρ_ w_ => Sum.inr () = o11 ∧ ρ_ = [] ∧ Mem w [] w_ []) ?_ ?_
 ·refine run_seq (run_region rfl (oM rfl (ops_nil (at_then (run_block ?_)))))
  refine run_loop (fun k_ ρ_ w_ => ∃ a10 : Int, spec_l1Signed.l0 x0 x1 k_ a10 = some o11 ∧ ρ_ = [(0, p0), (3, pA b13 0), (5, nI a10)] ∧ Mem w [] w_ [box b13 119 [nI x1.fKey, nI x1.fId]]) k ⟨_, ho14, rfl, HM⟩ (Sub.of rfl) ?_
  clear HM ho14
  rintro k15 _ w16 ⟨a10, ho14, rfl, HM⟩
  obtain _ | k15 := k15
  ·exact nomatch ((spec_l1Signed.l0.eq_1 x0 x1 a10).symm.trans ho14)
  replace ho14 := (spec_l1Signed.l0.eq_2 ..).symm.trans ho14
  refine run_seq (run_seq (run_region rfl (oM rfl (oM rfl (oy rfl (ex_len (d := kSign) (xs := x0) rfl rfl U44 hp0) (oy rfl (ex_lss rfl rfl rfl) (ops_nil (at_then (run_cond (b := (decide (a10 < (x0.length : Int)))) rfl (fun hb17 => ?_) (fun hb17 => ?_))))))))))
  ·replace ho14 := cond_t hb17 ho14
   refine run_skip (at_then (run_seq (run_block (run_seq ?_))))
   obtain ⟨e18, ho14⟩ := chk_some ho14
   refine run_drawf (fun w_ => Mem w [] w_ [box b13 119 [nI x1.fKey, nI x1.fId]]) [(0, true), (1, true), (2, true), (3, true), (4, true), (5, true)] mixed rfl rfl (by kernel_rfl) ?_
   replace HM := HM.grow (fr_drew _)
   have hS := HM.sufN 0 rfl
   refine dp rfl rfl rfl rfl (ex_move rfl rfl) hS (dp rfl rfl rfl rfl (ex_move rfl rfl) hS ?_)
   have hc19 : CellsAt _ (sb p0) (so p0 + (a10).toNat * 2) [(nI ((gt x0 a10).fKey)), (nI ((gt x0 a10).fId))] := rd_plain hp0 e18
   refine dp rfl rfl rfl rfl (ex_indexAddr (d := kSign) rfl rfl rfl U44 tsz119 hp0 (idx_lo e18) (idx_hi e18)) hS (drwp_take rfl (guard_none rfl) rfl rfl (fun w_ hS_ => (ldN rfl rfl U119 rfl tsz119 ((hS_.at_ hc19).subL 0 2 rfl) rfl)) hS (drwp_take rfl (guard_none rfl) rfl rfl (fun w_ hS_ => (ldN rfl rfl U119 rfl tsz119 ((hS_.box_at 0 rfl).subL 0 2 rfl) rfl)) hS (dp rfl rfl rfl rfl (ex_aeql rfl rfl rfl (by kernel_rfl) (eqs119 _ _ _ _ _)) hS ?_)))
   refine drwp_done (at_then (run_cond (b := ((((gt x0 a10).fKey) == x1.fKey) && (((gt x0 a10).fId) == x1.fId))) rfl (fun hb20 => ?_) (fun hb20 => ?_)))
   ·replace ho14 := cond_t hb20 ho14
    refine run_seq (run_region rfl (oM rfl (ops_nil (at_then (run_ret (at_block_ret (at_then_ret (at_then_ret (at_block_ret (at_then_ret ?_))))))))))
    replace HM := HM.frd 0 rfl
    cases ho14
    have hT := thn_inl H
    cases hT
    exact at_ret1 rfl rfl ⟨_, rfl, rfl, HM⟩
   ·replace ho14 := cond_f hb20 ho14
    exact run_skip (at_block (at_then (run_region rfl (oM rfl (oy rfl (ex_add rfl rfl rfl) (oM rfl (ops_nil (at_again k15 (Nat.lt_succ_self _) ⟨_, ho14, rfl, HM⟩ (Sub.of rfl)))))))))
  ·replace ho14 := cond_f hb17 ho14
   refine run_exit (at_then_exit (at_then_exit (at_block_exit ?_)))
   replace HM := HM.frd 0 rfl
   exact at_mid ⟨(sj ho14), rfl, HM⟩ Sub.nil
 ·rintro _ w21 ⟨rfl, rfl, HM⟩
  replace H := (thn_inr H)
  refine run_seq (run_region rfl (oM rfl (ops_nil (at_then (run_ret ?_)))))
  cases H
  exact at_ret1 rfl rfl ⟨_, rfl, rfl, HM⟩

def spec_l1Fault.l0 (x0 : Ledger) : Nat → Int → Option (Int ⊕ Unit)
 | 0, _ => none
 | k + 1, a10 => (bif (decide (a10 < (x0.fTexts.length : Int))) then (chk (idxOk a10 x0.fTexts.length) (chk (!(!(decide (((gt x0.fTexts a10).size : Int) < 1))) || (idxOk a10 x0.fTexts.length)) (bif ((decide (((gt x0.fTexts a10).size : Int) < 1)) || (decide (300 < ((gt x0.fTexts a10).size : Int)))) then some (.inl 2) else (chk (cutOk a10 x0.fTexts.length) (chk (idxOk a10 x0.fTexts.length) ((spec_l1At.f k (x0.fTexts.take (a10).toNat) (gt x0.fTexts a10)).bind fun t11 => (bif (decide (0 < t11)) then some (.inl 7) else spec_l1Fault.l0 x0 k (wrap64 (a10 + 1))))))))) else some (.inr ()))
def spec_l1Fault.l1 (x0 : Ledger) : Nat → Int → Option (Int ⊕ Unit)
 | 0, _ => none
 | k + 1, a12 => (bif (decide (a12 < (x0.fSigns.length : Int))) then (chk (idxOk a12 x0.fSigns.length) ((spec_l1Key.f k ((gt x0.fSigns a12).fKey)).bind fun t13 => (chk (!(!(!t13)) || (idxOk a12 x0.fSigns.length)) ((bif (!(!t13)) then spec_l1In.f k ((gt x0.fSigns a12).fId) 1 (x0.fTexts.length : Int) else some default).bind fun t14 => (bif ((!t13) || (!t14)) then some (.inl 3) else (chk (cutOk a12 x0.fSigns.length) (chk (idxOk a12 x0.fSigns.length) ((spec_l1Signed.f k (x0.fSigns.take (a12).toNat) (gt x0.fSigns a12)).bind fun t15 => (bif t15 then some (.inl 7) else spec_l1Fault.l1 x0 k (wrap64 (a12 + 1))))))))))) else some (.inr ()))
def spec_l1Fault.f (k : Nat) (x0 : Ledger) : Option Int := (bif ((decide (60 < (x0.fTexts.length : Int))) || (decide (120 < (x0.fSigns.length : Int)))) then some 2 else ((spec_l1Fault.l0 x0 k 0).bind fun o16 => thn o16 (fun r => some r) (fun _ => ((spec_l1Fault.l1 x0 k 0).bind fun o17 => thn o17 (fun r => some r) (fun _ => some 0)))))
theorem spec_l1Fault.calls {k : Nat} {x0 : Ledger} {b0 f0 : Nat} {p0_0 : Value} {p0_1 : Value} {w : World} (hc0 : CellsAt w b0 f0 [p0_0, p0_1]) (hp0_0 : RdS kStr w p0_0 x0.fTexts) (hp0_1 : RdS kSign w p0_1 x0.fSigns) {r : Int} (H : spec_l1Fault.f k x0 = some r) :
  Calls Tryz.prog 107 ([pA b0 f0] : List Value).toArray w (fun e w_ => ∃ v, e = .returned v ∧ v = (nI r) ∧ Mem w [] w_ []) := by
 have HM := Mem.start w
 refine calls_run (N := 113) Tryz.func107 rfl rfl rfl rfl ?_
 unfold spec_l1Fault.f at H
 refine run_seq (run_region rfl (oM rfl (ops_nil (at_then (run_seq (run_seq ?_))))))
 refine run_meet (fun ρ_ w_ => ρ_ = [(0, pA b0 f0), (18, .bool ((decide (60 < (x0.fTexts.length : Int))) || (decide (120 < (x0.fSigns.length : Int)))))] ∧ Mem w [] w_ []) ?_ ?_
 ·refine run_region rfl (oM rfl (oy rfl (ex_nilCheck rfl rfl) (oy rfl (ex_fieldAddr (off' := f0) rfl rfl U46 rfl tsz43 rfl) (oy rfl (ex_load1 rfl rfl U43 rfl ((HM.at_ hc0) 0 _ rfl)) (oy rfl (ex_len (d := kStr) (xs := x0.fTexts) rfl rfl U43 hp0_0) (oy rfl (ex_gtr rfl rfl rfl) (oM rfl ?_)))))))
  refine bool_cases (decide (60 < (x0.fTexts.length : Int))) (fun hg18 => ?_) (fun hg18 => ?_)
  ·refine gf rfl hg18 (gf rfl hg18 (gf rfl hg18 (gf rfl hg18 (gf rfl hg18 (gf rfl hg18 ?_)))))
   have hg19 : ((decide (60 < (x0.fTexts.length : Int))) || (decide (120 < (x0.fSigns.length : Int)))) = true := by simp only [hg18, Bool.and_true, Bool.true_and, Bool.and_false, Bool.false_and, Bool.or_true, Bool.true_or, Bool.or_false, Bool.false_or, Bool.not_true, Bool.not_false, Bool.not_not]
   exact ops_ex (v := .bool ((decide (60 < (x0.fTexts.length : Int))) || (decide (120 < (x0.fSigns.length : Int))))) rfl (guard_none rfl) rfl rfl (ex_por_t rfl rfl hg18) (ops_nil (at_meet _ ⟨rfl, HM⟩ (Sub.of rfl)))
  ·exact gn rfl hg18 (ex_move rfl rfl) (gn rfl hg18 (ex_nilCheck rfl rfl) (gn rfl hg18 (ex_fieldAddr (off' := f0 + 1) rfl rfl U46 rfl tsz44 rfl) (gn rfl hg18 (ex_load1 rfl rfl U44 rfl ((HM.at_ hc0) 1 _ rfl)) (gn rfl hg18 (ex_len (d := kSign) (xs := x0.fSigns) rfl rfl U44 hp0_1) (gn rfl hg18 (ex_gtr rfl rfl rfl) (ops_ex (v := .bool ((decide (60 < (x0.fTexts.length : Int))) || (decide (120 < (x0.fSigns.length : Int))))) rfl (guard_none rfl) rfl rfl (ex_por_f rfl rfl hg18 rfl) (ops_nil (at_meet _ ⟨rfl, HM⟩ (Sub.of rfl)))))))))
 ·rintro _ w20 ⟨rfl, HM⟩
  refine at_then (run_cond (b := ((decide (60 < (x0.fTexts.length : Int))) || (decide (120 < (x0.fSigns.length : Int))))) rfl (fun hb21 => ?_) (fun hb21 => ?_))
  ·replace H := cond_t hb21 H
   refine run_seq (run_region rfl (oM rfl (ops_nil (at_then (run_ret (at_then_ret ?_))))))
   cases H
   exact at_ret1 rfl rfl ⟨_, rfl, rfl, HM⟩
  ·replace H := cond_f hb21 H
   refine run_skip (at_then ?_)
   obtain ⟨o16, ho22, H⟩ := bind_some H
   refine run_mid (fun ρ_ w_ => Sum.inr () = o16 ∧ ρ_ = [(0, pA b0 f0)] ∧ Mem w [] w_ []) ?_ ?_
   ·refine run_seq (run_region rfl (oM rfl (ops_nil (at_then (run_block ?_)))))
    refine run_loop (fun k_ ρ_ w_ => ∃ a10 : Int, spec_l1Fault.l0 x0 k_ a10 = some o16 ∧ ρ_ = [(0, pA b0 f0), (3, nI a10)] ∧ Mem w [] w_ []) k ⟨_, ho22, rfl, HM⟩ (Sub.of rfl) ?_
    clear HM ho22
    rintro k23 _ w24 ⟨a10, ho22, rfl, HM⟩
    obtain _ | k23 := k23
    ·exact nomatch ((spec_l1Fault.l0.eq_1 x0 a10).symm.trans ho22)
    replace ho22 := (spec_l1Fault.l0.eq_2 ..).symm.trans ho22
    refine run_seq (run_seq (run_region rfl (oM rfl (oM rfl (oy rfl (ex_nilCheck rfl rfl) (oy rfl (ex_fieldAddr (off' := f0) rfl rfl U46 rfl tsz43 rfl) (oy rfl (ex_load1 rfl rfl U43 rfl ((HM.at_ hc0) 0 _ rfl)) (oy rfl (ex_len (d := kStr) (xs := x0.fTexts) rfl rfl U43 hp0_0) (oy rfl (ex_lss rfl rfl rfl) ?_)))))))))
    refine ops_nil (at_then (run_cond (b := (decide (a10 < (x0.fTexts.length : Int)))) rfl (fun hb25 => ?_) (fun hb25 => ?_)))
    ·replace ho22 := cond_t hb25 ho22
     refine run_skip (at_then (run_seq (run_block (run_seq (run_seq ?_)))))
     obtain ⟨e26, ho22⟩ := chk_some ho22
     obtain ⟨e27, ho22⟩ := chk_some ho22
     refine run_meet (fun ρ_ w_ => ρ_ = [(0, pA b0 f0), (3, nI a10), (47, .bool ((decide (((gt x0.fTexts a10).size : Int) < 1)) || (decide (300 < ((gt x0.fTexts a10).size : Int)))))] ∧ Mem w [] w_ []) ?_ ?_
     ·refine run_region rfl (oM rfl (oy rfl (ex_nilCheck rfl rfl) (oy rfl (ex_fieldAddr (off' := f0) rfl rfl U46 rfl tsz43 rfl) (oy rfl (ex_load1 rfl rfl U43 rfl ((HM.at_ hc0) 0 _ rfl)) (oM rfl ?_)))))
      have hc28 : CellsAt _ (sb p0_0) (so p0_0 + (a10).toNat * 1) [(.string (gt x0.fTexts a10))] := rd_plain hp0_0 e26
      refine oy rfl (ex_indexAddr (d := kStr) rfl rfl rfl U43 tsz9 hp0_0 (idx_lo e26) (idx_hi e26)) (oy rfl (ex_load1 rfl rfl U9 rfl ((HM.at_ hc28) 0 _ rfl)) (oy rfl (ex_strlen rfl rfl U9) (oy rfl (ex_lss rfl rfl rfl) (oM rfl ?_))))
      refine bool_cases (decide (((gt x0.fTexts a10).size : Int) < 1)) (fun hg29 => ?_) (fun hg29 => ?_)
      ·refine gf rfl hg29 (gf rfl hg29 (gf rfl hg29 (gf rfl hg29 (gf rfl hg29 (gf rfl hg29 (gf rfl hg29 (gf rfl hg29 (gf rfl hg29 ?_))))))))
       have hg30 : ((decide (((gt x0.fTexts a10).size : Int) < 1)) || (decide (300 < ((gt x0.fTexts a10).size : Int)))) = true := by simp only [hg29, Bool.and_true, Bool.true_and, Bool.and_false, Bool.false_and, Bool.or_true, Bool.true_or, Bool.or_false, Bool.false_or, Bool.not_true, Bool.not_false, Bool.not_not]
       exact ops_ex (v := .bool ((decide (((gt x0.fTexts a10).size : Int) < 1)) || (decide (300 < ((gt x0.fTexts a10).size : Int))))) rfl (guard_none rfl) rfl rfl (ex_por_t rfl rfl hg29) (ops_nil (at_meet _ ⟨rfl, HM⟩ (Sub.of rfl)))
      ·refine gn rfl hg29 (ex_move rfl rfl) (gn rfl hg29 (ex_nilCheck rfl rfl) (gn rfl hg29 (ex_fieldAddr (off' := f0) rfl rfl U46 rfl tsz43 rfl) (gn rfl hg29 (ex_load1 rfl rfl U43 rfl ((HM.at_ hc0) 0 _ rfl)) (gn rfl hg29 (ex_move rfl rfl) ?_))))
       have hc31 : CellsAt _ (sb p0_0) (so p0_0 + (a10).toNat * 1) [(.string (gt x0.fTexts a10))] := rd_plain hp0_0 (or_t e27 (not_mk hg29))
       exact gn rfl hg29 (ex_indexAddr (d := kStr) rfl rfl rfl U43 tsz9 hp0_0 (idx_lo (or_t e27 (not_mk hg29))) (idx_hi (or_t e27 (not_mk hg29)))) (gn rfl hg29 (ex_load1 rfl rfl U9 rfl ((HM.at_ hc31) 0 _ rfl)) (gn rfl hg29 (ex_strlen rfl rfl U9) (gn rfl hg29 (ex_gtr rfl rfl rfl) (ops_ex (v := .bool ((decide (((gt x0.fTexts a10).size : Int) < 1)) || (decide (300 < ((gt x0.fTexts a10).size : Int))))) rfl (guard_none rfl) rfl rfl (ex_por_f rfl rfl hg29 rfl) (ops_nil (at_meet _ ⟨rfl, HM⟩ (Sub.of rfl)))))))
     ·rintro _ w32 ⟨rfl, HM⟩
      refine at_then (run_cond (b := ((decide (((gt x0.fTexts a10).size : Int) < 1)) || (decide (300 < ((gt x0.fTexts a10).size : Int))))) rfl (fun hb33 => ?_) (fun hb33 => ?_))
      ·replace ho22 := cond_t hb33 ho22
       refine run_seq (run_region rfl (oM rfl (ops_nil (at_then (run_ret (at_then_ret (at_block_ret (at_then_ret (at_then_ret (at_block_ret ?_))))))))))
       refine at_then_ret ?_
       cases ho22
       have hT := thn_inl H
       cases hT
       exact at_ret1 rfl rfl ⟨_, rfl, rfl, HM⟩
      ·replace ho22 := cond_f hb33 ho22
       refine run_skip (at_then (run_seq ?_))
       obtain ⟨e34, ho22⟩ := chk_some ho22
       obtain ⟨e35, ho22⟩ := chk_some ho22
       obtain ⟨t11, h36, ho22⟩ := bind_some ho22
       refine run_drawf (fun w_ => Mem w [] w_ []) [(0, true), (1, true), (2, true), (3, true), (4, true), (5, true), (6, true), (7, true), (8, true), (9, true), (10, true), (11, true), (12, true), (13, false), (14, true)] mixed rfl rfl (by kernel_rfl) ?_
       replace HM := HM.grow (fr_drew _)
       have hS := HM.sufN 0 rfl
       refine dp rfl rfl rfl rfl (ex_move rfl rfl) hS (dp rfl rfl rfl rfl (ex_nilCheck rfl rfl) hS (dp rfl rfl rfl rfl (ex_fieldAddr (off' := f0) rfl rfl U46 rfl tsz43 rfl) hS (drwp_take rfl (guard_none rfl) rfl rfl (fun w_ hS_ => (ex_load1 rfl rfl U43 rfl ((hS_.at_ hc0) 0 _ rfl))) hS (dp rfl rfl rfl rfl (ex_move rfl rfl) hS (drwp_takeE rfl (guard_none rfl) rfl rfl (ex_cutH kStr rfl rfl rfl U43 tsz9 hp0_0 e34) hS ?_)))))
       rintro u37 hr38
       refine dp rfl rfl rfl rfl (ex_move rfl rfl) hS (dp rfl rfl rfl rfl (ex_nilCheck rfl rfl) hS (dp rfl rfl rfl rfl (ex_fieldAddr (off' := f0) rfl rfl U46 rfl tsz43 rfl) hS (drwp_take rfl (guard_none rfl) rfl rfl (fun w_ hS_ => (ex_load1 rfl rfl U43 rfl ((hS_.at_ hc0) 0 _ rfl))) hS (dp rfl rfl rfl rfl (ex_move rfl rfl) hS ?_))))
       have hc39 : CellsAt _ (sb p0_0) (so p0_0 + (a10).toNat * 1) [(.string (gt x0.fTexts a10))] := rd_plain hp0_0 e35
       refine dp rfl rfl rfl rfl (ex_indexAddr (d := kStr) rfl rfl rfl U43 tsz9 hp0_0 (idx_lo e35) (idx_hi e35)) hS (drwp_take rfl (guard_none rfl) rfl rfl (fun w_ hS_ => (ex_load1 rfl rfl U9 rfl ((hS_.at_ hc39) 0 _ rfl))) hS (drwp_one rfl (guard_none rfl) rfl rfl (does_callk rfl callok109 rfl (spec_l1At.calls (x0 := x0.fTexts.take (a10).toNat) (x1 := (gt x0.fTexts a10)) (HM.rd hr38) h36)) ?_))
       rintro _ w40 ⟨rfl, hn⟩
       replace HM := HM.callN hn rfl
       have hS := HM.sufN 0 rfl
       refine ⟨hS, (dp rfl rfl rfl rfl (ex_gtr rfl rfl rfl) hS (drwp_done (at_then (run_cond (b := (decide (0 < t11))) rfl (fun hb41 => ?_) (fun hb41 => ?_)))))⟩
       ·replace ho22 := cond_t hb41 ho22
        refine run_seq (run_region rfl (oM rfl (ops_nil (at_then (run_ret (at_block_ret (at_then_ret (at_then_ret (at_block_ret (at_then_ret ?_))))))))))
        cases ho22
        have hT := thn_inl H
        cases hT
        exact at_ret1 rfl rfl ⟨_, rfl, rfl, HM⟩
       ·replace ho22 := cond_f hb41 ho22
        exact run_skip (at_block (at_then (run_region rfl (oM rfl (oy rfl (ex_add rfl rfl rfl) (oM rfl (ops_nil (at_again k23 (Nat.lt_succ_self _) ⟨_, ho22, rfl, HM⟩ (Sub.of rfl)))))))))
    ·replace ho22 := cond_f hb25 ho22
     exact run_exit (at_then_exit (at_then_exit (at_block_exit (at_mid ⟨(sj ho22), rfl, HM⟩ (Sub.of rfl)))))
   ·rintro _ w42 ⟨rfl, rfl, HM⟩
    replace H := (thn_inr H)
    obtain ⟨o17, ho43, H⟩ := bind_some H
    refine run_mid (fun ρ_ w_ => Sum.inr () = o17 ∧ ρ_ = [] ∧ Mem w [] w_ []) ?_ ?_
    ·refine run_seq (run_region rfl (oM rfl (ops_nil (at_then (run_block ?_)))))
     refine run_loop (fun k_ ρ_ w_ => ∃ a12 : Int, spec_l1Fault.l1 x0 k_ a12 = some o17 ∧ ρ_ = [(0, pA b0 f0), (4, nI a12)] ∧ Mem w [] w_ []) k ⟨_, ho43, rfl, HM⟩ (Sub.of rfl) ?_
     clear HM ho43
     rintro k44 _ w45 ⟨a12, ho43, rfl, HM⟩
     obtain _ | k44 := k44
     ·exact nomatch ((spec_l1Fault.l1.eq_1 x0 a12).symm.trans ho43)
     replace ho43 := (spec_l1Fault.l1.eq_2 ..).symm.trans ho43
     refine run_seq (run_seq (run_region rfl (oM rfl (oM rfl (oy rfl (ex_nilCheck rfl rfl) (oy rfl (ex_fieldAddr (off' := f0 + 1) rfl rfl U46 rfl tsz44 rfl) (oy rfl (ex_load1 rfl rfl U44 rfl ((HM.at_ hc0) 1 _ rfl)) (oy rfl (ex_len (d := kSign) (xs := x0.fSigns) rfl rfl U44 hp0_1) (oy rfl (ex_lss rfl rfl rfl) ?_)))))))))
     refine ops_nil (at_then (run_cond (b := (decide (a12 < (x0.fSigns.length : Int)))) rfl (fun hb46 => ?_) (fun hb46 => ?_)))
     ·replace ho43 := cond_t hb46 ho43
      refine run_skip (at_then (run_seq (run_block (run_seq (run_seq ?_)))))
      obtain ⟨e47, ho43⟩ := chk_some ho43
      obtain ⟨t13, h48, ho43⟩ := bind_some ho43
      obtain ⟨e49, ho43⟩ := chk_some ho43
      obtain ⟨t14, h50, ho43⟩ := bind_some ho43
      refine run_meet (fun ρ_ w_ => ρ_ = [(0, pA b0 f0), (4, nI a12), (98, .bool ((!t13) || (!t14)))] ∧ Mem w [] w_ []) ?_ ?_
      ·refine run_drawf (fun w_ => Mem w [] w_ []) [(0, true), (1, true), (2, true), (3, true), (4, true), (5, true), (6, true), (7, true), (8, false), (9, true), (10, true), (11, true), (12, true), (13, true), (14, true), (15, true), (16, true), (17, true), (18, true), (19, true), (20, true), (21, true), (22, true), (23, true), (24, false), (25, true), (26, true)] mixed rfl rfl (by kernel_rfl) ?_
       replace HM := HM.grow (fr_drew _)
       have hS := HM.sufN 0 rfl
       refine dp rfl rfl rfl rfl (ex_move rfl rfl) hS (dp rfl rfl rfl rfl (ex_nilCheck rfl rfl) hS (dp rfl rfl rfl rfl (ex_fieldAddr (off' := f0 + 1) rfl rfl U46 rfl tsz44 rfl) hS (drwp_take rfl (guard_none rfl) rfl rfl (fun w_ hS_ => (ex_load1 rfl rfl U44 rfl ((hS_.at_ hc0) 1 _ rfl))) hS (dp rfl rfl rfl rfl (ex_move rfl rfl) hS ?_))))
       have hc51 : CellsAt _ (sb p0_1) (so p0_1 + (a12).toNat * 2) [(nI ((gt x0.fSigns a12).fKey)), (nI ((gt x0.fSigns a12).fId))] := rd_plain hp0_1 e47
       refine dp rfl rfl rfl rfl (ex_indexAddr (d := kSign) rfl rfl rfl U44 tsz119 hp0_1 (idx_lo e47) (idx_hi e47)) hS (dp rfl rfl rfl rfl (ex_fieldAddr (off' := so p0_1 + (a12).toNat * 2) rfl rfl U119 rfl tsz2 rfl) hS (drwp_take rfl (guard_none rfl) rfl rfl (fun w_ hS_ => (ex_load1 rfl rfl U2 rfl ((hS_.at_ hc51) 0 _ rfl))) hS (drwp_one rfl (guard_none rfl) rfl rfl (does_callk rfl callok86 rfl (spec_l1Key.calls (x0 := (gt x0.fSigns a12).fKey) h48)) ?_)))
       rintro _ w52 ⟨rfl, hn⟩
       replace HM := HM.callN hn rfl
       have hS := HM.sufN 0 rfl
       refine ⟨hS, (dp rfl rfl rfl rfl (ex_not rfl rfl) hS (dp rfl rfl rfl rfl (ex_move rfl rfl) hS ?_))⟩
       refine bool_cases (!t13) (fun hg53 => ?_) (fun hg53 => ?_)
       ·refine drwp_off rfl (guard_off rfl rfl rfl hg53) rfl rfl hS (drwp_off rfl (guard_off rfl rfl rfl hg53) rfl rfl hS (drwp_off rfl (guard_off rfl rfl rfl hg53) rfl rfl hS (drwp_off rfl (guard_off rfl rfl rfl hg53) rfl rfl hS (drwp_off rfl (guard_off rfl rfl rfl hg53) rfl rfl hS (drwp_off rfl (guard_off rfl rfl rfl hg53) rfl rfl hS (drwp_off rfl (guard_off rfl rfl rfl hg53) rfl rfl hS (drwp_off rfl (guard_off rfl rfl rfl hg53) rfl rfl hS (drwp_off rfl (guard_off rfl rfl rfl hg53) rfl rfl hS (drwp_off rfl (guard_off rfl rfl rfl hg53) rfl rfl hS ?_)))))))))
        refine drwp_off rfl (guard_off rfl rfl rfl hg53) rfl rfl hS (drwp_off rfl (guard_off rfl rfl rfl hg53) rfl rfl hS (drwp_off rfl (guard_off rfl rfl rfl hg53) rfl rfl hS (drwp_off1 rfl (guard_off rfl rfl rfl hg53) rfl rfl ⟨hS, (drwp_off rfl (guard_off rfl rfl rfl hg53) rfl rfl hS ?_)⟩)))
        have hg54 : ((!t13) || (!t14)) = true := by simp only [hg53, Bool.and_true, Bool.true_and, Bool.and_false, Bool.false_and, Bool.or_true, Bool.true_or, Bool.or_false, Bool.false_or, Bool.not_true, Bool.not_false, Bool.not_not]
        exact drwp_take (v := .bool ((!t13) || (!t14))) rfl (guard_none rfl) rfl rfl (fun w_ hS_ => (ex_por_t rfl rfl hg53)) hS (drwp_done (at_meet _ ⟨rfl, HM⟩ (Sub.of rfl)))
       ·refine drwp_take rfl (guard_on rfl rfl rfl hg53) rfl rfl (fun w_ hS_ => (ex_move rfl rfl)) hS (drwp_take rfl (guard_on rfl rfl rfl hg53) rfl rfl (fun w_ hS_ => (ex_nilCheck rfl rfl)) hS (drwp_take rfl (guard_on rfl rfl rfl hg53) rfl rfl (fun w_ hS_ => (ex_fieldAddr (off' := f0 + 1) rfl rfl U46 rfl tsz44 rfl)) hS (drwp_take rfl (guard_on rfl rfl rfl hg53) rfl rfl (fun w_ hS_ => (ex_load1 rfl rfl U44 rfl ((hS_.at_ hc0) 1 _ rfl))) hS (drwp_take rfl (guard_on rfl rfl rfl hg53) rfl rfl (fun w_ hS_ => (ex_move rfl rfl)) hS ?_))))
        have hc55 : CellsAt _ (sb p0_1) (so p0_1 + (a12).toNat * 2) [(nI ((gt x0.fSigns a12).fKey)), (nI ((gt x0.fSigns a12).fId))] := rd_plain hp0_1 (or_t e49 (not_mk hg53))
        refine drwp_take rfl (guard_on rfl rfl rfl hg53) rfl rfl (fun w_ hS_ => (ex_indexAddr (d := kSign) rfl rfl rfl U44 tsz119 hp0_1 (idx_lo (or_t e49 (not_mk hg53))) (idx_hi (or_t e49 (not_mk hg53))))) hS (drwp_take rfl (guard_on rfl rfl rfl hg53) rfl rfl (fun w_ hS_ => (ex_fieldAddr (off' := so p0_1 + (a12).toNat * 2 + 1) rfl rfl U119 rfl tsz2 rfl)) hS (drwp_take rfl (guard_on rfl rfl rfl hg53) rfl rfl (fun w_ hS_ => (ex_load1 rfl rfl U2 rfl ((hS_.at_ hc55) 1 _ rfl))) hS (drwp_take rfl (guard_on rfl rfl rfl hg53) rfl rfl (fun w_ hS_ => (ex_move rfl rfl)) hS (drwp_take rfl (guard_on rfl rfl rfl hg53) rfl rfl (fun w_ hS_ => (ex_nilCheck rfl rfl)) hS (drwp_take rfl (guard_on rfl rfl rfl hg53) rfl rfl (fun w_ hS_ => (ex_fieldAddr (off' := f0) rfl rfl U46 rfl tsz43 rfl)) hS (drwp_take rfl (guard_on rfl rfl rfl hg53) rfl rfl (fun w_ hS_ => (ex_load1 rfl rfl U43 rfl ((hS_.at_ hc0) 0 _ rfl))) hS (drwp_take rfl (guard_on rfl rfl rfl hg53) rfl rfl (fun w_ hS_ => (ex_len (d := kStr) (xs := x0.fTexts) rfl rfl U43 hp0_0)) hS (drwp_one rfl (guard_on rfl rfl rfl hg53) rfl rfl (does_callk rfl callok50 rfl (spec_l1In.calls (x0 := (gt x0.fSigns a12).fId) (x1 := 1) (x2 := (x0.fTexts.length : Int)) (cond_t (not_mk hg53) h50))) ?_))))))))
        rintro _ w56 ⟨rfl, hn⟩
        replace HM := HM.callN hn rfl
        have hS := HM.sufN 0 rfl
        exact ⟨hS, (drwp_take rfl (guard_on rfl rfl rfl hg53) rfl rfl (fun w_ hS_ => (ex_not rfl rfl)) hS (drwp_take (v := .bool ((!t13) || (!t14))) rfl (guard_none rfl) rfl rfl (fun w_ hS_ => (ex_por_f rfl rfl hg53 rfl)) hS (drwp_done (at_meet _ ⟨rfl, HM⟩ (Sub.of rfl)))))⟩
      ·rintro _ w57 ⟨rfl, HM⟩
       refine at_then (run_cond (b := ((!t13) || (!t14))) rfl (fun hb58 => ?_) (fun hb58 => ?_))
       ·replace ho43 := cond_t hb58 ho43
        refine run_seq (run_region rfl (oM rfl (ops_nil (at_then (run_ret (at_then_ret (at_block_ret (at_then_ret (at_then_ret (at_block_ret ?_))))))))))
        refine at_then_ret ?_
        cases ho43
        have hT := thn_inl H
        cases hT
        exact at_ret1 rfl rfl ⟨_, rfl, rfl, HM⟩
       ·replace ho43 := cond_f hb58 ho43
        refine run_skip (at_then (run_seq ?_))
        obtain ⟨e59, ho43⟩ := chk_some ho43
        obtain ⟨e60, ho43⟩ := chk_some ho43
        obtain ⟨t15, h61, ho43⟩ := bind_some ho43
        refine run_drawf (fun w_ => Mem w [] w_ []) [(0, true), (1, true), (2, true), (3, true), (4, true), (5, true), (6, true), (7, true), (8, true), (9, true), (10, true), (11, true), (12, true), (13, false)] mixed rfl rfl (by kernel_rfl) ?_
        replace HM := HM.grow (fr_drew _)
        have hS := HM.sufN 0 rfl
        refine dp rfl rfl rfl rfl (ex_move rfl rfl) hS (dp rfl rfl rfl rfl (ex_nilCheck rfl rfl) hS (dp rfl rfl rfl rfl (ex_fieldAddr (off' := f0 + 1) rfl rfl U46 rfl tsz44 rfl) hS (drwp_take rfl (guard_none rfl) rfl rfl (fun w_ hS_ => (ex_load1 rfl rfl U44 rfl ((hS_.at_ hc0) 1 _ rfl))) hS (dp rfl rfl rfl rfl (ex_move rfl rfl) hS (drwp_takeE rfl (guard_none rfl) rfl rfl (ex_cutH kSign rfl rfl rfl U44 tsz119 hp0_1 e59) hS ?_)))))
        rintro u62 hr63
        refine dp rfl rfl rfl rfl (ex_move rfl rfl) hS (dp rfl rfl rfl rfl (ex_nilCheck rfl rfl) hS (dp rfl rfl rfl rfl (ex_fieldAddr (off' := f0 + 1) rfl rfl U46 rfl tsz44 rfl) hS (drwp_take rfl (guard_none rfl) rfl rfl (fun w_ hS_ => (ex_load1 rfl rfl U44 rfl ((hS_.at_ hc0) 1 _ rfl))) hS (dp rfl rfl rfl rfl (ex_move rfl rfl) hS ?_))))
        have hc64 : CellsAt _ (sb p0_1) (so p0_1 + (a12).toNat * 2) [(nI ((gt x0.fSigns a12).fKey)), (nI ((gt x0.fSigns a12).fId))] := rd_plain hp0_1 e60
        refine dp rfl rfl rfl rfl (ex_indexAddr (d := kSign) rfl rfl rfl U44 tsz119 hp0_1 (idx_lo e60) (idx_hi e60)) hS (drwp_take rfl (guard_none rfl) rfl rfl (fun w_ hS_ => (ldN rfl rfl U119 rfl tsz119 ((hS_.at_ hc64).subL 0 2 rfl) rfl)) hS (drwp_one rfl (guard_none rfl) rfl rfl (does_callk rfl callok112 rfl (spec_l1Signed.calls (x0 := x0.fSigns.take (a12).toNat) (x1 := (gt x0.fSigns a12)) (HM.rd hr63) h61)) ?_))
        rintro _ w65 ⟨rfl, hn⟩
        replace HM := HM.callN hn rfl
        have hS := HM.sufN 0 rfl
        refine ⟨hS, (drwp_done (at_then (run_cond (b := t15) rfl (fun hb66 => ?_) (fun hb66 => ?_))))⟩
        ·replace ho43 := cond_t hb66 ho43
         refine run_seq (run_region rfl (oM rfl (ops_nil (at_then (run_ret (at_block_ret (at_then_ret (at_then_ret (at_block_ret (at_then_ret ?_))))))))))
         cases ho43
         have hT := thn_inl H
         cases hT
         exact at_ret1 rfl rfl ⟨_, rfl, rfl, HM⟩
        ·replace ho43 := cond_f hb66 ho43
         exact run_skip (at_block (at_then (run_region rfl (oM rfl (oy rfl (ex_add rfl rfl rfl) (oM rfl (ops_nil (at_again k44 (Nat.lt_succ_self _) ⟨_, ho43, rfl, HM⟩ (Sub.of rfl)))))))))
     ·replace ho43 := cond_f hb46 ho43
      exact run_exit (at_then_exit (at_then_exit (at_block_exit (at_mid ⟨(sj ho43), rfl, HM⟩ Sub.nil))))
    ·rintro _ w67 ⟨rfl, rfl, HM⟩
     replace H := (thn_inr H)
     refine run_seq (run_region rfl (oM rfl (ops_nil (at_then (run_ret ?_)))))
     cases H
     exact at_ret1 rfl rfl ⟨_, rfl, rfl, HM⟩
end Go.Proofs.YtecgbhfgkkpmhacGreat.Zk
