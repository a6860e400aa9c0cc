/- What functions of the program compute, each as a plain function, and that they do. Conditions: as each theorem states them. -/
import Derived.Test.YtecgbhfgkkpmhacGreatFnUndosZkF7
namespace Go.Proofs.YtecgbhfgkkpmhacGreat.Zk
open Go Go.RowKit Go.IntWalk Go.Proofs
set_option linter.unusedVariables false
set_option linter.unusedSimpArgs false
set_option maxRecDepth 100000
set_option maxHeartbeats 4000000
def spec_l1Right.l0 (x0 : l1Src) : Nat → Int → (List ByteArray) → (List Sign) → Int → Option (Int × (List ByteArray) × (List Sign))
 | 0, _, _, _, _ => none
 | k + 1, a10, a11, a12, a13 => (bif (decide (0 < a13)) then ((spec_l1Word.f k (⟨x0.fCode, a10⟩ : l1Src)).bind fun t14 => ((spec_NoteText.f k (⟨a11, a12⟩ : Ledger) t14.1).bind fun t15 => spec_l1Right.l0 x0 k t14.2 t15.fLedger.fTexts t15.fLedger.fSigns (wrap64 (a13 - 1)))) else some (a10, a11, a12))
def spec_l1Right.l1 (x0 : l1Src) : Nat → Int → (List ByteArray) → (List Sign) → Int → Option (Int × (List ByteArray) × (List Sign))
 | 0, _, _, _, _ => none
 | k + 1, a16, a17, a18, a19 => (bif (decide (0 < a19)) then ((spec_l1Next.f k (⟨x0.fCode, a16⟩ : l1Src) 4).bind fun t20 => ((spec_l1Next.f k (⟨x0.fCode, t20.2⟩ : l1Src) 5).bind fun t21 => ((spec_SignId.f k (⟨a17, a18⟩ : Ledger) (wrap64 (1 + t20.1)) (wrap64 (1 + t21.1))).bind fun t22 => (bif (t22.fCode == 0) then spec_l1Right.l1 x0 k t21.2 t22.fLedger.fTexts t22.fLedger.fSigns (wrap64 (a19 - 1)) else spec_l1Right.l1 x0 k t21.2 a17 a18 (wrap64 (a19 - 1)))))) else some (a16, a17, a18))
def spec_l1Right.f (k : Nat) (x0 : l1Src) : Option (Ledger × Int) := (((spec_l1Next.f k x0 6).bind fun t23 => spec_l1Right.l0 x0 k t23.2 ([] : List ByteArray) ([] : List Sign) t23.1).bind (cur3 (fun a24 a25 a26 => (((spec_l1Next.f k (⟨x0.fCode, a24⟩ : l1Src) 6).bind fun t27 => spec_l1Right.l1 x0 k t27.2 a25 a26 t27.1).bind (cur3 (fun a28 a29 a30 => some ((⟨a29, a30⟩ : Ledger), a28)))))))
theorem spec_l1Right.calls {k : Nat} {x0 : l1Src} {b0 : Nat} {p0_0 : Value} {w wo : World} {X : List Nat} (hwo : Olds wo w X) (hX : Hold w [box b0 78 [p0_0, nI x0.fAt]] X) (hXn : X.Nodup) (hXl : ∀ b ∈ X, b < w.heap.size) (hp0_0 : RdS kU8 wo p0_0 x0.fCode) {r : Ledger × Int} (H : spec_l1Right.f k x0 = some r) :
  Calls Tryz.prog 77 ([pA b0 0] : List Value).toArray w (fun e w_ => ∃ v, e = .returned v ∧ ∃ u0 : Value, ∃ u1 : Value, v = (.agg #[u0, u1]) ∧ Mem w X w_ [own kStr 9 u0 r.1.fTexts, own kSign 119 u1 r.1.fSigns, box b0 78 [p0_0, nI r.2]]) := by
 have HM := Mem.startX hX hXn hXl
 refine calls_run (N := 39) Tryz.func77 rfl rfl rfl rfl ?_
 unfold spec_l1Right.f at H
 refine run_seq (run_region rfl (oz rfl (does_alloc (cs := [.slice none 0 0, .slice none 0 0]) rfl tz46 rfl HM) ?_))
 rintro _ w31 ⟨b32, rfl, HM⟩
 refine ops_nil (at_then (run_seq (run_region rfl (oy rfl (ex_build (cells := #[(.slice none 0 0), (.slice none 0 0)]) rfl rfl (by kernel_rfl)) ?_))))
 refine oz rfl (does_alloc (cs := [.slice none 0 0, .slice none 0 0]) rfl tz46 rfl HM) ?_
 rintro _ w33 ⟨b34, rfl, HM⟩
 refine odS rfl rfl rfl (does_store (vs := [.slice none 0 0, .slice none 0 0]) (cs' := [.slice none 0 0, .slice none 0 0]) rfl rfl rfl rfl tsz46 (Ones.sl (Ones.sl Ones.nil)) rfl rfl HM) ?_
 rintro w35 HM
 refine ops_nil (at_then ?_)
 obtain ⟨o36, ho37, H⟩ := bind_some H
 refine run_mid (fun ρ_ w_ => ∃ a24 : Int, ∃ v38 : Value, ∃ a25 : List ByteArray, ∃ v39 : Value, ∃ a26 : List Sign, (a24, a25, a26) = o36 ∧ ρ_ = [(0, pA b0 0), (2, pA b32 0), (3, pA b34 0)] ∧ Mem w X w_ [box b0 78 [p0_0, nI a24], box b32 46 [.slice none 0 0, .slice none 0 0], box b34 46 [v38, v39], own kStr 9 v38 a25, own kSign 119 v39 a26]) ?_ ?_
 ·clear H
  refine run_seq ?_
  obtain ⟨t23, h40, ho37⟩ := bind_some ho37
  refine run_region rfl (oM rfl ?_)
  replace HM := HM.fr1 2 rfl
  obtain ⟨F41, hF42, hFn43, hFl44, HMh45, hcl46⟩ := HM.hideN 1 rfl
  refine oz rfl (does_callk rfl callok16 rfl (spec_l1Next.calls (x0 := x0) (x1 := 6) (hide_olds _ _) hF42 hFn43 hFl44 (HMh45.rdo hwo hp0_0) h40)) ?_
  rintro _ w47 ⟨rfl, hn⟩
  replace HM := hcl46 _ _ _ rfl hn
  refine oM rfl (ops_nil (at_then (run_block ?_)))
  replace HM := HM.empty kStr 9 none
  replace HM := ((HM.empty kSign 119 none).fr1 1 rfl).fr1 3 rfl
  replace HM := (HM.fr1 4 rfl).fr1 4 rfl
  refine run_loop (fun k_ ρ_ w_ => ∃ a10 : Int, ∃ v48 : Value, ∃ a11 : List ByteArray, ∃ v49 : Value, ∃ a12 : List Sign, ∃ a13 : Int, spec_l1Right.l0 x0 k_ a10 a11 a12 a13 = some o36 ∧ ρ_ = [(0, pA b0 0), (2, pA b32 0), (3, pA b34 0), (4, nI a13)] ∧ Mem w X w_ [box b0 78 [p0_0, nI a10], box b32 46 [.slice none 0 0, .slice none 0 0], box b34 46 [v48, v49], own kStr 9 v48 a11, own kSign 119 v49 a12]) k ⟨_, _, _, _, _, _, ho37, rfl, HM⟩ (Sub.of rfl) ?_
  clear HM ho37
  rintro k50 _ w51 ⟨a10, v48, a11, v49, a12, a13, ho37, rfl, HM⟩
  obtain _ | k50 := k50
  ·exact nomatch ((spec_l1Right.l0.eq_1 x0 a10 a11 a12 a13).symm.trans ho37)
  replace ho37 := (spec_l1Right.l0.eq_2 ..).symm.trans ho37
  refine run_seq (run_seq (run_region rfl (oM rfl (oy rfl (ex_gtr rfl rfl rfl) (ops_nil (at_then (run_cond (b := (decide (0 < a13))) rfl (fun hb52 => ?_) (fun hb52 => ?_))))))))
  ·replace ho37 := cond_t hb52 ho37
   refine run_skip (at_then (run_seq (run_block ?_)))
   obtain ⟨t14, h53, ho37⟩ := bind_some ho37
   obtain ⟨t15, h54, ho37⟩ := bind_some ho37
   refine run_meet (fun ρ_ w_ => ∃ u55 : Value, ∃ u56 : Value, ρ_ = [(0, pA b0 0), (2, pA b32 0), (3, pA b34 0), (4, nI a13)] ∧ Mem w X w_ [box b0 78 [p0_0, nI t14.2], box b32 46 [.slice none 0 0, .slice none 0 0], box b34 46 [u55, u56], own kStr 9 u55 t15.fLedger.fTexts, own kSign 119 u56 t15.fLedger.fSigns]) ?_ ?_
   ·replace HM := (HM.fr1 2 rfl).fr1 1 rfl
    refine run_draw (fun w_ => Mem w X w_ [box b32 46 [.slice none 0 0, .slice none 0 0], own kStr 9 v48 a11, own kSign 119 v49 a12]) mixed rfl (l := #[false, false, false, false, false, false]) rfl ?_
    replace HM := HM.grow (fr_drew _)
    have hS := HM.sufN 2 rfl
    refine drw_cut0 (l' := #[true, true, true, false, false, false]) (f' := 3) ([(0, pA b0 0), (2, pA b32 0), (3, pA b34 0), (4, nI a13), (14, .agg #[v48, v49]), (16, .string t14.1)]) (fun w_ => Mem w X w_ [box b0 78 [p0_0, nI t14.2], box b34 46 [v48, v49], box b32 46 [.slice none 0 0, .slice none 0 0], own kStr 9 v48 a11, own kSign 119 v49 a12]) ?_ (fun K57 => ?_)
    ·rintro w58 HM
     have hS := HM.sufN 2 rfl
     refine drw_any [3] (by kernel_rfl) rfl (.cons ?_ .nil)
     refine br_does (l' := #[true, true, true, true, false, false]) rfl (guard_none rfl) rfl rfl (by kernel_rfl) (does_callk rfl callok72 rfl (spec_NoteText.calls (x0 := (⟨a11, a12⟩ : Ledger)) (x1 := t14.1) (HM.own_rd 3 rfl) (HM.own_rd 4 rfl) h54)) ?_
     rintro _ w59 ⟨u55, u56, rfl, hn⟩
     replace HM := HM.callN hn rfl
     have hS := HM.sufN 4 rfl
     refine ⟨hS, (dt 4 #[true, true, true, true, true, false] rfl rfl rfl rfl (by kernel_rfl) (ex_fieldN (us := #[u55, u56]) rfl rfl U110 rfl U46 rfl tsz46 rfl) hS ?_)⟩
     replace HM := HM.fr1 3 rfl
     refine drw_any [5] (by kernel_rfl) rfl (.cons ?_ .nil)
     refine br_doesS (l' := #[true, true, true, true, true, true]) rfl (guard_none rfl) rfl (by kernel_rfl) (does_store (vs := [u55, u56]) (cs' := [u55, u56]) rfl rfl rfl rfl tsz46 (Ones.rd (HM.own_rd 1 rfl) (Ones.rd (HM.own_rd 2 rfl) Ones.nil)) rfl rfl HM) ?_
     rintro w60 HM
     have hS := HM.sufN 4 rfl
     refine ⟨hS, (drw_done (by kernel_rfl) ?_)⟩
     replace HM := ((HM.frd 5 rfl).frd 5 rfl).fr1 2 rfl
     replace HM := ((HM.fr1 2 rfl).fr1 2 rfl).fr1 4 rfl
     replace HM := HM.fr1 4 rfl
     exact at_meet _ ⟨_, _, rfl, HM⟩ (Sub.of rfl)
    refine dt 1 #[false, true, false, false, false, false] rfl rfl rfl rfl (by kernel_rfl) (ex_move rfl rfl) hS ?_
    refine drw_any [0, 2] (by kernel_rfl) rfl (.cons ?_ (.cons ?_ .nil))
    ·refine br_does (l' := #[true, true, false, false, false, false]) rfl (guard_none rfl) rfl rfl (by kernel_rfl) (does_ex' (ldN rfl rfl U46 rfl tsz46 ((HM.box_at 1 rfl).subL 0 2 rfl) rfl)) ?_
     rintro _ _ ⟨rfl, rfl⟩
     refine ⟨hS, ?_⟩
     obtain ⟨F61, hF62, hFn63, hFl64, HMh65, hcl66⟩ := HM.hideN 1 rfl
     refine drw_any [2] (by kernel_rfl) rfl (.cons ?_ .nil)
     refine br_does (l' := #[true, true, true, false, false, false]) rfl (guard_none rfl) rfl rfl (by kernel_rfl) (does_callk rfl callok73 rfl (spec_l1Word.calls (x0 := (⟨x0.fCode, a10⟩ : l1Src)) (hide_olds _ _) hF62 hFn63 hFl64 (HMh65.rdo hwo hp0_0) h53)) ?_
     rintro _ w67 ⟨rfl, hn⟩
     replace HM := hcl66 _ _ _ rfl hn
     have hS := HM.sufN 2 rfl
     exact ⟨hS, (drw_sub (K57 _ HM) (Sub.of rfl))⟩
    ·obtain ⟨F61, hF62, hFn63, hFl64, HMh65, hcl66⟩ := HM.hideN 1 rfl
     refine br_does (l' := #[false, true, true, false, false, false]) rfl (guard_none rfl) rfl rfl (by kernel_rfl) (does_callk rfl callok73 rfl (spec_l1Word.calls (x0 := (⟨x0.fCode, a10⟩ : l1Src)) (hide_olds _ _) hF62 hFn63 hFl64 (HMh65.rdo hwo hp0_0) h53)) ?_
     rintro _ w68 ⟨rfl, hn⟩
     replace HM := hcl66 _ _ _ rfl hn
     have hS := HM.sufN 2 rfl
     refine ⟨hS, (drw_any [0] (by kernel_rfl) rfl (.cons ?_ .nil))⟩
     refine br_does (l' := #[true, true, true, false, false, false]) rfl (guard_none rfl) rfl rfl (by kernel_rfl) (does_ex' (ldN rfl rfl U46 rfl tsz46 ((HM.box_at 1 rfl).subL 0 2 rfl) rfl)) ?_
     rintro _ _ ⟨rfl, rfl⟩
     exact ⟨hS, (drw_sub (K57 _ HM) (Sub.of rfl))⟩
   ·rintro _ w69 ⟨u55, u56, rfl, HM⟩
    exact at_block (at_then (run_region rfl (oM rfl (oy rfl (ex_sub rfl rfl rfl) (oM rfl (ops_nil (at_again k50 (Nat.lt_succ_self _) ⟨_, _, _, _, _, _, ho37, rfl, HM⟩ (Sub.of rfl))))))))
  ·replace ho37 := cond_f hb52 ho37
   exact run_exit (at_then_exit (at_then_exit (at_block_exit (at_mid ⟨_, _, _, _, _, (sj ho37), rfl, HM⟩ (Sub.of rfl)))))
 ·rintro _ w70 ⟨a24, v38, a25, v39, a26, rfl, rfl, HM⟩
  replace H := cur3_mk H
  obtain ⟨o71, ho72, H⟩ := bind_some H
  refine run_mid (fun ρ_ w_ => ∃ a28 : Int, ∃ v73 : Value, ∃ a29 : List ByteArray, ∃ v74 : Value, ∃ a30 : List Sign, (a28, a29, a30) = o71 ∧ ρ_ = [(2, pA b32 0), (3, pA b34 0)] ∧ Mem w X w_ [box b0 78 [p0_0, nI a28], box b32 46 [.slice none 0 0, .slice none 0 0], box b34 46 [v73, v74], own kStr 9 v73 a29, own kSign 119 v74 a30]) ?_ ?_
  ·clear H
   refine run_seq ?_
   obtain ⟨t27, h75, ho72⟩ := bind_some ho72
   refine run_region rfl (oM rfl ?_)
   obtain ⟨F76, hF77, hFn78, hFl79, HMh80, hcl81⟩ := HM.hideN 1 rfl
   refine oz rfl (does_callk rfl callok16 rfl (spec_l1Next.calls (x0 := (⟨x0.fCode, a24⟩ : l1Src)) (x1 := 6) (hide_olds _ _) hF77 hFn78 hFl79 (HMh80.rdo hwo hp0_0) h75)) ?_
   rintro _ w82 ⟨rfl, hn⟩
   replace HM := hcl81 _ _ _ rfl hn
   refine oM rfl (ops_nil (at_then (run_block ?_)))
   refine run_loop (fun k_ ρ_ w_ => ∃ a16 : Int, ∃ v83 : Value, ∃ a17 : List ByteArray, ∃ v84 : Value, ∃ a18 : List Sign, ∃ a19 : Int, spec_l1Right.l1 x0 k_ a16 a17 a18 a19 = some o71 ∧ ρ_ = [(0, pA b0 0), (2, pA b32 0), (3, pA b34 0), (5, nI a19)] ∧ Mem w X w_ [box b0 78 [p0_0, nI a16], box b32 46 [.slice none 0 0, .slice none 0 0], box b34 46 [v83, v84], own kStr 9 v83 a17, own kSign 119 v84 a18]) k ⟨_, _, _, _, _, _, ho72, rfl, HM⟩ (Sub.of rfl) ?_
   clear HM ho72
   rintro k85 _ w86 ⟨a16, v83, a17, v84, a18, a19, ho72, rfl, HM⟩
   obtain _ | k85 := k85
   ·exact nomatch ((spec_l1Right.l1.eq_1 x0 a16 a17 a18 a19).symm.trans ho72)
   replace ho72 := (spec_l1Right.l1.eq_2 ..).symm.trans ho72
   refine run_seq (run_seq (run_region rfl (oM rfl (oy rfl (ex_gtr rfl rfl rfl) (ops_nil (at_then (run_cond (b := (decide (0 < a19))) rfl (fun hb87 => ?_) (fun hb87 => ?_))))))))
   ·replace ho72 := cond_t hb87 ho72
    refine run_skip (at_then (run_seq (run_block (run_seq ?_))))
    obtain ⟨t20, h88, ho72⟩ := bind_some ho72
    obtain ⟨t21, h89, ho72⟩ := bind_some ho72
    obtain ⟨t22, h90, ho72⟩ := bind_some ho72
    refine run_meet (fun ρ_ w_ => ∃ u91 : Value, ∃ u92 : Value, ∃ b93 : Nat, ρ_ = [(0, pA b0 0), (2, pA b32 0), (3, pA b34 0), (5, nI a19), (6, pA b93 0)] ∧ Mem w X w_ [box b0 78 [p0_0, nI t21.2], box b32 46 [.slice none 0 0, .slice none 0 0], box b34 46 [v83, v84], own kStr 9 v83 a17, own kSign 119 v84 a18, box b93 110 [nI t22.fCode, nI t22.fId, u91, u92], own kStr 9 u91 t22.fLedger.fTexts, own kSign 119 u92 t22.fLedger.fSigns]) ?_ ?_
    ·refine run_draw (fun w_ => Mem w X w_ [box b32 46 [.slice none 0 0, .slice none 0 0], box b34 46 [v83, v84], own kStr 9 v83 a17, own kSign 119 v84 a18]) mixed rfl (l := #[false, false, false, false, false, false, false, false, false, false]) rfl ?_
     replace HM := HM.grow (fr_drew _)
     have hS := HM.sufN 1 rfl
     refine drw_cut3 (l' := #[true, true, true, true, true, true, true, true, true, false]) (f' := 1) (fun (u91 : Value) => fun (u92 : Value) => fun (b93 : Nat) => [(0, pA b0 0), (2, pA b32 0), (3, pA b34 0), (5, nI a19), (32, .agg #[(nI t22.fCode), (nI t22.fId), u91, u92]), (6, pA b93 0)]) (fun (u91 : Value) => fun (u92 : Value) => fun (b93 : Nat) => fun w_ => Mem w X w_ [box b93 110 [nI 0, nI 0, .slice none 0 0, .slice none 0 0], own kStr 9 u91 t22.fLedger.fTexts, own kSign 119 u92 t22.fLedger.fSigns, box b0 78 [p0_0, nI t21.2], box b32 46 [.slice none 0 0, .slice none 0 0], box b34 46 [v83, v84], own kStr 9 v83 a17, own kSign 119 v84 a18]) ?_ (fun K94 => ?_)
     ·rintro u91 u92 b93 w95 HM
      have hS := HM.sufN 4 rfl
      refine drw_any [9] (by kernel_rfl) rfl (.cons ?_ .nil)
      refine br_doesS (l' := #[true, true, true, true, true, true, true, true, true, true]) rfl (guard_none rfl) rfl (by kernel_rfl) (does_store (vs := [nI t22.fCode, nI t22.fId, u91, u92]) (cs' := [nI t22.fCode, nI t22.fId, u91, u92]) rfl rfl rfl rfl tsz110 (Ones.int (Ones.int (Ones.rd (HM.own_rd 1 rfl) (Ones.rd (HM.own_rd 2 rfl) Ones.nil)))) rfl rfl HM) ?_
      rintro w96 HM
      have hS := HM.sufN 4 rfl
      refine ⟨hS, (drw_done (by kernel_rfl) ?_)⟩
      replace HM := ((HM.fr1 2 rfl).fr1 2 rfl).fr1 2 rfl
      replace HM := ((HM.fr1 7 rfl).fr1 7 rfl).fr1 7 rfl
      replace HM := (HM.fr1 7 rfl).fr1 7 rfl
      exact at_meet _ ⟨_, _, _, rfl, HM⟩ (Sub.of rfl)
     refine drw_cut1 (l' := #[true, true, true, true, true, true, true, false, true, false]) (f' := 2) (fun (b93 : Nat) => [(0, pA b0 0), (2, pA b32 0), (3, pA b34 0), (5, nI a19), (25, .agg #[v83, v84]), (28, nI (wrap64 (1 + t20.1))), (31, nI (wrap64 (1 + t21.1))), (6, pA b93 0)]) (fun (b93 : Nat) => fun w_ => Mem w X w_ [box b93 110 [nI 0, nI 0, .slice none 0 0, .slice none 0 0], box b0 78 [p0_0, nI t21.2], box b32 46 [.slice none 0 0, .slice none 0 0], box b34 46 [v83, v84], own kStr 9 v83 a17, own kSign 119 v84 a18]) ?_ (fun K97 => ?_)
     ·rintro b93 w98 HM
      have hS := HM.sufN 2 rfl
      refine drw_any [7] (by kernel_rfl) rfl (.cons ?_ .nil)
      refine br_does (l' := #[true, true, true, true, true, true, true, true, true, false]) rfl (guard_none rfl) rfl rfl (by kernel_rfl) (does_callk rfl callok76 rfl (spec_SignId.calls (x0 := (⟨a17, a18⟩ : Ledger)) (x1 := wrap64 (1 + t20.1)) (x2 := wrap64 (1 + t21.1)) (HM.own_rd 4 rfl) (HM.own_rd 5 rfl) h90)) ?_
      rintro _ w99 ⟨u91, u92, rfl, hn⟩
      replace HM := HM.callN hn rfl
      have hS := HM.sufN 4 rfl
      refine ⟨hS, ?_⟩
      replace HM := ((HM.fr1 7 rfl).fr1 7 rfl).fr1 7 rfl
      replace HM := ((HM.fr1 7 rfl).fr1 7 rfl).fr1 6 rfl
      replace HM := (HM.fr1 6 rfl).fr1 7 rfl
      exact drw_sub (K94 u91 u92 b93 _ HM) (Sub.of rfl)
     refine drw_cut1 (l' := #[true, true, true, true, true, false, false, false, true, false]) (f' := 4) (fun (b93 : Nat) => [(0, pA b0 0), (2, pA b32 0), (3, pA b34 0), (5, nI a19), (25, .agg #[v83, v84]), (29, pA b0 0), (28, nI (wrap64 (1 + t20.1))), (6, pA b93 0)]) (fun (b93 : Nat) => fun w_ => Mem w X w_ [box b93 110 [nI 0, nI 0, .slice none 0 0, .slice none 0 0], box b0 78 [p0_0, nI t20.2], box b32 46 [.slice none 0 0, .slice none 0 0], box b34 46 [v83, v84], own kStr 9 v83 a17, own kSign 119 v84 a18]) ?_ (fun K100 => ?_)
     ·rintro b93 w101 HM
      have hS := HM.sufN 2 rfl
      replace HM := HM.fr1 1 rfl
      obtain ⟨F102, hF103, hFn104, hFl105, HMh106, hcl107⟩ := HM.hideN 1 rfl
      refine drw_any [5] (by kernel_rfl) rfl (.cons ?_ .nil)
      refine br_does (l' := #[true, true, true, true, true, true, false, false, true, false]) rfl (guard_none rfl) rfl rfl (by kernel_rfl) (does_callk rfl callok16 rfl (spec_l1Next.calls (x0 := (⟨x0.fCode, t20.2⟩ : l1Src)) (x1 := 5) (hide_olds _ _) hF103 hFn104 hFl105 (HMh106.rdo hwo hp0_0) h89)) ?_
      rintro _ w108 ⟨rfl, hn⟩
      replace HM := hcl107 _ _ _ rfl hn
      have hS := HM.sufN 2 rfl
      refine ⟨hS, (dt 6 #[true, true, true, true, true, true, true, false, true, false] rfl rfl rfl rfl (by kernel_rfl) (ex_add rfl rfl rfl) hS ?_)⟩
      replace HM := ((HM.fr1 5 rfl).fr1 5 rfl).fr1 5 rfl
      replace HM := ((HM.fr1 5 rfl).fr1 4 rfl).fr1 5 rfl
      exact drw_sub (K97 b93 _ HM) (Sub.of rfl)
     refine drw_take (i := 0) (l' := #[true, false, false, false, false, false, false, false, false, false]) rfl (guard_none rfl) rfl rfl (by kernel_rfl) (fun w_ hS_ => (ldN rfl rfl U46 rfl tsz46 ((hS_.box_at 1 rfl).subL 0 2 rfl) rfl)) hS ?_
     refine dt 1 #[true, true, false, false, false, false, false, false, false, false] rfl rfl rfl rfl (by kernel_rfl) (ex_move rfl rfl) hS ?_
     refine dt 4 #[true, true, false, false, true, false, false, false, false, false] rfl rfl rfl rfl (by kernel_rfl) (ex_move rfl rfl) hS ?_
     refine drw_any [2, 8] (by kernel_rfl) rfl (.cons ?_ (.cons ?_ .nil))
     ·obtain ⟨F109, hF110, hFn111, hFl112, HMh113, hcl114⟩ := HM.hideN 1 rfl
      refine br_does (l' := #[true, true, true, false, true, false, false, false, false, false]) rfl (guard_none rfl) rfl rfl (by kernel_rfl) (does_callk rfl callok16 rfl (spec_l1Next.calls (x0 := (⟨x0.fCode, a16⟩ : l1Src)) (x1 := 4) (hide_olds _ _) hF110 hFn111 hFl112 (HMh113.rdo hwo hp0_0) h88)) ?_
      rintro _ w115 ⟨rfl, hn⟩
      replace HM := hcl114 _ _ _ rfl hn
      have hS := HM.sufN 1 rfl
      refine ⟨hS, (dt 3 #[true, true, true, true, true, false, false, false, false, false] rfl rfl rfl rfl (by kernel_rfl) (ex_add rfl rfl rfl) hS ?_)⟩
      refine drw_any [5, 8] (by kernel_rfl) rfl (.cons ?_ (.cons ?_ .nil))
      ·obtain ⟨F102, hF103, hFn104, hFl105, HMh106, hcl107⟩ := HM.hideN 1 rfl
       refine br_does (l' := #[true, true, true, true, true, true, false, false, false, false]) rfl (guard_none rfl) rfl rfl (by kernel_rfl) (does_callk rfl callok16 rfl (spec_l1Next.calls (x0 := (⟨x0.fCode, t20.2⟩ : l1Src)) (x1 := 5) (hide_olds _ _) hF103 hFn104 hFl105 (HMh106.rdo hwo hp0_0) h89)) ?_
       rintro _ w116 ⟨rfl, hn⟩
       replace HM := hcl107 _ _ _ rfl hn
       have hS := HM.sufN 1 rfl
       refine ⟨hS, (dt 6 #[true, true, true, true, true, true, true, false, false, false] rfl rfl rfl rfl (by kernel_rfl) (ex_add rfl rfl rfl) hS ?_)⟩
       refine drw_any [7, 8] (by kernel_rfl) rfl (.cons ?_ (.cons ?_ .nil))
       ·refine br_does (l' := #[true, true, true, true, true, true, true, true, false, false]) rfl (guard_none rfl) rfl rfl (by kernel_rfl) (does_callk rfl callok76 rfl (spec_SignId.calls (x0 := (⟨a17, a18⟩ : Ledger)) (x1 := wrap64 (1 + t20.1)) (x2 := wrap64 (1 + t21.1)) (HM.own_rd 3 rfl) (HM.own_rd 4 rfl) h90)) ?_
        rintro _ w117 ⟨u91, u92, rfl, hn⟩
        replace HM := HM.callN hn rfl
        have hS := HM.sufN 3 rfl
        refine ⟨hS, (drw_any [8] (by kernel_rfl) rfl (.cons ?_ .nil))⟩
        refine br_does (l' := #[true, true, true, true, true, true, true, true, true, false]) rfl (guard_none rfl) rfl rfl (by kernel_rfl) (does_alloc (cs := [nI 0, nI 0, .slice none 0 0, .slice none 0 0]) rfl tz110 rfl HM) ?_
        rintro _ w118 ⟨b93, rfl, HM⟩
        have hS := HM.sufN 4 rfl
        exact ⟨hS, (drw_sub (K94 u91 u92 b93 _ HM) (Sub.of rfl))⟩
       ·refine br_does (l' := #[true, true, true, true, true, true, true, false, true, false]) rfl (guard_none rfl) rfl rfl (by kernel_rfl) (does_alloc (cs := [nI 0, nI 0, .slice none 0 0, .slice none 0 0]) rfl tz110 rfl HM) ?_
        rintro _ w119 ⟨b93, rfl, HM⟩
        have hS := HM.sufN 2 rfl
        exact ⟨hS, (drw_sub (K97 b93 _ HM) (Sub.of rfl))⟩
      ·refine br_does (l' := #[true, true, true, true, true, false, false, false, true, false]) rfl (guard_none rfl) rfl rfl (by kernel_rfl) (does_alloc (cs := [nI 0, nI 0, .slice none 0 0, .slice none 0 0]) rfl tz110 rfl HM) ?_
       rintro _ w120 ⟨b93, rfl, HM⟩
       have hS := HM.sufN 2 rfl
       exact ⟨hS, (drw_sub (K100 b93 _ HM) (Sub.of rfl))⟩
     ·refine br_does (l' := #[true, true, false, false, true, false, false, false, true, false]) rfl (guard_none rfl) rfl rfl (by kernel_rfl) (does_alloc (cs := [nI 0, nI 0, .slice none 0 0, .slice none 0 0]) rfl tz110 rfl HM) ?_
      rintro _ w121 ⟨b93, rfl, HM⟩
      have hS := HM.sufN 2 rfl
      refine ⟨hS, ?_⟩
      replace HM := HM.fr1 1 rfl
      obtain ⟨F109, hF110, hFn111, hFl112, HMh113, hcl114⟩ := HM.hideN 1 rfl
      refine drw_any [2] (by kernel_rfl) rfl (.cons ?_ .nil)
      refine br_does (l' := #[true, true, true, false, true, false, false, false, true, false]) rfl (guard_none rfl) rfl rfl (by kernel_rfl) (does_callk rfl callok16 rfl (spec_l1Next.calls (x0 := (⟨x0.fCode, a16⟩ : l1Src)) (x1 := 4) (hide_olds _ _) hF110 hFn111 hFl112 (HMh113.rdo hwo hp0_0) h88)) ?_
      rintro _ w122 ⟨rfl, hn⟩
      replace HM := hcl114 _ _ _ rfl hn
      have hS := HM.sufN 2 rfl
      refine ⟨hS, (dt 3 #[true, true, true, true, true, false, false, false, true, false] rfl rfl rfl rfl (by kernel_rfl) (ex_add rfl rfl rfl) hS ?_)⟩
      replace HM := ((HM.fr1 5 rfl).fr1 5 rfl).fr1 5 rfl
      replace HM := ((HM.fr1 5 rfl).fr1 4 rfl).fr1 5 rfl
      exact drw_sub (K100 b93 _ HM) (Sub.of rfl)
    ·rintro _ w123 ⟨u91, u92, b93, rfl, HM⟩
     refine at_then (run_seq (run_region rfl (oy rfl (ex_fieldAddr (off' := 0) rfl rfl U110 rfl tsz2 rfl) (oy rfl (ex_load1 rfl rfl U2 rfl ((HM.box_at 5 rfl) 0 _ rfl)) (oy rfl (ex_eql rfl rfl rfl) (ops_nil (at_then (run_cond (b := (t22.fCode == 0)) rfl (fun hb124 => ?_) (fun hb124 => ?_)))))))))
     ·replace ho72 := cond_t hb124 ho72
      refine run_region rfl (oy rfl (ex_fieldAddr (off' := 2) rfl rfl U110 rfl tsz46 rfl) (oy rfl (ldN rfl rfl U46 rfl tsz46 ((HM.box_at 5 rfl).subL 2 2 rfl) rfl) ?_))
      replace HM := HM.fr1 2 rfl
      refine odS rfl rfl rfl (does_store (vs := [u91, u92]) (cs' := [u91, u92]) rfl rfl rfl rfl tsz46 (Ones.rd (HM.own_rd 6 rfl) (Ones.rd (HM.own_rd 7 rfl) Ones.nil)) rfl rfl HM) ?_
      rintro w125 HM
      refine ops_nil (at_block (at_then (run_region rfl (oM rfl (oy rfl (ex_sub rfl rfl rfl) (oM rfl (ops_nil ?_)))))))
      replace HM := ((HM.frd 3 rfl).frd 3 rfl).frd 3 rfl
      replace HM := ((HM.fr1 4 rfl).fr1 4 rfl).fr1 2 rfl
      replace HM := (HM.fr1 4 rfl).fr1 4 rfl
      exact at_again k85 (Nat.lt_succ_self _) ⟨_, _, _, _, _, _, ho72, rfl, HM⟩ (Sub.of rfl)
     ·replace ho72 := cond_f hb124 ho72
      refine run_skip (at_block (at_then (run_region rfl (oM rfl (oy rfl (ex_sub rfl rfl rfl) (oM rfl (ops_nil ?_)))))))
      replace HM := ((HM.frd 5 rfl).frd 5 rfl).frd 5 rfl
      exact at_again k85 (Nat.lt_succ_self _) ⟨_, _, _, _, _, _, ho72, rfl, HM⟩ (Sub.of rfl)
   ·replace ho72 := cond_f hb87 ho72
    exact run_exit (at_then_exit (at_then_exit (at_block_exit (at_mid ⟨_, _, _, _, _, (sj ho72), rfl, HM⟩ (Sub.of rfl)))))
  ·rintro _ w126 ⟨a28, v73, a29, v74, a30, rfl, rfl, HM⟩
   replace H := cur3_mk H
   refine run_seq (run_region rfl (oy rfl (ldN rfl rfl U46 rfl tsz46 ((HM.box_at 2 rfl).subL 0 2 rfl) rfl) ?_))
   replace HM := HM.fr1 1 rfl
   refine odS rfl rfl rfl (does_store (vs := [v73, v74]) (cs' := [v73, v74]) rfl rfl rfl rfl tsz46 (Ones.rd (HM.own_rd 3 rfl) (Ones.rd (HM.own_rd 4 rfl) Ones.nil)) rfl rfl HM) ?_
   rintro w127 HM
   refine ops_nil (at_then (run_ret ?_))
   replace HM := ((HM.frd 2 rfl).fr1 1 rfl).fr1 3 rfl
   replace HM := (HM.fr1 3 rfl).fr1 3 rfl
   have hcb0 := HM.box_at 0 rfl
   replace HM := HM.frd 0 rfl
   cases H
   exact at_retN rfl rfl U46 rfl tsz46 rfl hcb0 ⟨_, rfl, _, _, rfl, HM⟩

def spec_l1Ledger.f (k : Nat) (x0 : l1Src) : Option (Ledger × Int) := ((spec_l1Right.f k x0).bind fun t10 => ((spec_l1Next.f k (⟨x0.fCode, t10.2⟩ : l1Src) 16).bind fun t11 => (bif (t11.1 == 0) then ((spec_l1Next.f k (⟨x0.fCode, t11.2⟩ : l1Src) 3).bind fun t12 => (chk (idxOk t12.1 ([(⟨#[97]⟩ : ByteArray), (⟨#[]⟩ : ByteArray), (⟨#[110, 101, 119]⟩ : ByteArray)] : List ByteArray).length) (chk (leB ((t10.1.fTexts.length + ([(gt ([(⟨#[97]⟩ : ByteArray), (⟨#[]⟩ : ByteArray), (⟨#[110, 101, 119]⟩ : ByteArray)] : List ByteArray) t12.1)] : List ByteArray).length) * 16) 140737488355328) (some ((⟨t10.1.fTexts ++ ([(gt ([(⟨#[97]⟩ : ByteArray), (⟨#[]⟩ : ByteArray), (⟨#[110, 101, 119]⟩ : ByteArray)] : List ByteArray) t12.1)] : List ByteArray), t10.1.fSigns⟩ : Ledger), t12.2))))) else (bif (t11.1 == 1) then ((spec_l1Pick.f k (⟨x0.fCode, t11.2⟩ : l1Src) ([1, 0, 1000] : List Int)).bind fun t13 => ((spec_l1Pick.f k (⟨x0.fCode, t13.2⟩ : l1Src) ([1, 9, 0] : List Int)).bind fun t14 => (chk (leB ((t10.1.fSigns.length + ([(⟨t13.1, t14.1⟩ : Sign)] : List Sign).length) * 16) 140737488355328) (some ((⟨t10.1.fTexts, t10.1.fSigns ++ ([(⟨t13.1, t14.1⟩ : Sign)] : List Sign)⟩ : Ledger), t14.2))))) else (bif (t11.1 == 2) then (chk (decide (0 ≤ (61 : Int))) (chk (leB (((61 : Int)).toNat * 16) 281474976710656) (some ((⟨List.replicate ((61 : Int)).toNat (⟨#[]⟩ : ByteArray), t10.1.fSigns⟩ : Ledger), t11.2)))) else some ((⟨t10.1.fTexts, t10.1.fSigns⟩ : Ledger), t11.2))))))
theorem spec_l1Ledger.calls {k : Nat} {x0 : l1Src} {b0 : Nat} {p0_0 : Value} {w wo : World} {X : List Nat} (hwo : Olds wo w X) (hX : Hold w [box b0 78 [p0_0, nI x0.fAt]] X) (hXn : X.Nodup) (hXl : ∀ b ∈ X, b < w.heap.size) (hp0_0 : RdS kU8 wo p0_0 x0.fCode) {r : Ledger × Int} (H : spec_l1Ledger.f k x0 = some r) :
  Calls Tryz.prog 35 ([pA b0 0] : List Value).toArray w (fun e w_ => ∃ v, e = .returned v ∧ ∃ u0 : Value, ∃ u1 : Value, v = (.agg #[u0, u1]) ∧ Mem w X w_ [own kStr 9 u0 r.1.fTexts, own kSign 119 u1 r.1.fSigns, box b0 78 [p0_0, nI r.2]]) := by
 have HM := Mem.startX hX hXn hXl
 refine calls_run (N := 39) Tryz.func35 rfl rfl rfl rfl ?_
 unfold spec_l1Ledger.f at H
 refine run_seq (run_region rfl (oz rfl (does_alloc (cs := [.slice none 0 0, .slice none 0 0]) rfl tz46 rfl HM) ?_))
 rintro _ w15 ⟨b16, rfl, HM⟩
 refine ops_nil (at_then (run_seq ?_))
 obtain ⟨t10, h17, H⟩ := bind_some H
 refine run_region rfl (oM rfl ?_)
 replace HM := HM.fr1 1 rfl
 obtain ⟨F18, hF19, hFn20, hFl21, HMh22, hcl23⟩ := HM.hideN 1 rfl
 refine oz rfl (does_callk rfl callok77 rfl (spec_l1Right.calls (x0 := x0) (hide_olds _ _) hF19 hFn20 hFl21 (HMh22.rdo hwo hp0_0) h17)) ?_
 rintro _ w24 ⟨u25, u26, rfl, hn⟩
 replace HM := hcl23 _ _ _ rfl hn
 refine oz rfl (does_alloc (cs := [.slice none 0 0, .slice none 0 0]) rfl tz46 rfl HM) ?_
 rintro _ w27 ⟨b28, rfl, HM⟩
 refine odS rfl rfl rfl (does_store (vs := [u25, u26]) (cs' := [u25, u26]) rfl rfl rfl rfl tsz46 (Ones.rd (HM.own_rd 1 rfl) (Ones.rd (HM.own_rd 2 rfl) Ones.nil)) rfl rfl HM) ?_
 rintro w29 HM
 refine ops_nil (at_then (run_seq (run_seq ?_)))
 obtain ⟨t11, h30, H⟩ := bind_some H
 refine run_region rfl (oM rfl ?_)
 replace HM := HM.fr1 3 rfl
 obtain ⟨F31, hF32, hFn33, hFl34, HMh35, hcl36⟩ := HM.hideN 1 rfl
 refine oz rfl (does_callk rfl callok16 rfl (spec_l1Next.calls (x0 := (⟨x0.fCode, t10.2⟩ : l1Src)) (x1 := 16) (hide_olds _ _) hF32 hFn33 hFl34 (HMh35.rdo hwo hp0_0) h30)) ?_
 rintro _ w37 ⟨rfl, hn⟩
 replace HM := hcl36 _ _ _ rfl hn
 refine ops_nil (at_then (run_block (run_seq (run_region rfl (oy rfl (ex_eql rfl rfl rfl) (oM rfl (ops_nil (at_then (run_cond (b := (t11.1 == 0)) rfl (fun hb38 => ?_) (fun hb38 => ?_))))))))))
 ·replace H := cond_t hb38 H
  obtain ⟨t12, h39, H⟩ := bind_some H
  obtain ⟨e40, H⟩ := chk_some H
  obtain ⟨e41, H⟩ := chk_some H
  refine run_meet (fun ρ_ w_ => ∃ v42 : Value, ρ_ = [(2, pA b16 0), (3, pA b28 0)] ∧ Mem w X w_ [box b0 78 [p0_0, nI t12.2], box b16 46 [.slice none 0 0, .slice none 0 0], box b28 46 [v42, u26], own kStr 9 v42 (t10.1.fTexts ++ ([(gt ([(⟨#[97]⟩ : ByteArray), (⟨#[]⟩ : ByteArray), (⟨#[110, 101, 119]⟩ : ByteArray)] : List ByteArray) t12.1)] : List ByteArray)), own kSign 119 u26 t10.1.fSigns]) ?_ ?_
  ·replace HM := ((HM.fr1 2 rfl).fr1 2 rfl).fr1 2 rfl
   refine run_draw (fun w_ => Mem w X w_ [own kSign 119 u26 t10.1.fSigns, box b16 46 [.slice none 0 0, .slice none 0 0]]) mixed rfl (l := #[false, false, false, false, false, false, false, false, false, false, false]) rfl ?_
   replace HM := HM.grow (fr_drew _)
   have hS := HM.sufN 3 rfl
   refine drw_cut2 (l' := #[true, true, true, true, true, true, true, true, false, false, false]) (f' := 3) (fun (v43 : Value) => fun (v44 : Value) => [(2, pA b16 0), (3, pA b28 0), (11, u25), (17, v44)]) (fun (v43 : Value) => fun (v44 : Value) => fun w_ => Mem w X w_ [own kStr 9 v44 ([(gt ([(⟨#[97]⟩ : ByteArray), (⟨#[]⟩ : ByteArray), (⟨#[110, 101, 119]⟩ : ByteArray)] : List ByteArray) t12.1)] : List ByteArray), box b0 78 [p0_0, nI t12.2], own kStr 9 v43 ([(⟨#[97]⟩ : ByteArray), (⟨#[]⟩ : ByteArray), (⟨#[110, 101, 119]⟩ : ByteArray)] : List ByteArray), box b28 46 [u25, u26], own kStr 9 u25 t10.1.fTexts, own kSign 119 u26 t10.1.fSigns, box b16 46 [.slice none 0 0, .slice none 0 0]]) ?_ (fun K45 => ?_)
   ·rintro v43 v44 w46 HM
    have hS := HM.sufN 5 rfl
    replace HM := HM.fr1 4 rfl
    refine drw_any [8] (by kernel_rfl) rfl (.cons ?_ .nil)
    refine br_does (l' := #[true, true, true, true, true, true, true, true, true, false, false]) rfl (guard_none rfl) rfl rfl (by kernel_rfl) (does_appendR kStr flat_plain rfl rfl rfl U43 tsz9 rfl tby9 tz9 rfl rfl (leB_le e41) (HM.own_rd 1 rfl) HM) ?_
    rintro v42 w47 HM
    have hS := HM.sufN 5 rfl
    refine ⟨hS, (dt 9 #[true, true, true, true, true, true, true, true, true, true, false] rfl rfl rfl rfl (by kernel_rfl) (ex_fieldAddr (off' := 0) rfl rfl U46 rfl tsz43 rfl) hS ?_)⟩
    replace HM := HM.fr1 4 rfl
    refine drw_any [10] (by kernel_rfl) rfl (.cons ?_ .nil)
    refine br_doesS (l' := #[true, true, true, true, true, true, true, true, true, true, true]) rfl (guard_none rfl) rfl (by kernel_rfl) (does_store (vs := [v42]) (cs' := [v42, u26]) rfl rfl rfl (rd_cells (HM.own_rd 1 rfl)) tsz43 (Ones.rd (HM.own_rd 1 rfl) Ones.nil) rfl rfl HM) ?_
    rintro w48 HM
    have hS := HM.sufN 5 rfl
    refine ⟨hS, (drw_done (by kernel_rfl) ?_)⟩
    replace HM := ((HM.frd 2 rfl).frd 3 rfl).fr1 3 rfl
    replace HM := ((HM.fr1 2 rfl).fr1 2 rfl).fr1 4 rfl
    replace HM := HM.fr1 4 rfl
    exact at_meet _ ⟨_, rfl, HM⟩ (Sub.of rfl)
   refine drw_cut1 (l' := #[true, true, true, true, true, true, true, false, false, false, false]) (f' := 4) (fun (v43 : Value) => [(2, pA b16 0), (3, pA b28 0), (11, u25), (16, .string (gt ([(⟨#[97]⟩ : ByteArray), (⟨#[]⟩ : ByteArray), (⟨#[110, 101, 119]⟩ : ByteArray)] : List ByteArray) t12.1))]) (fun (v43 : Value) => fun w_ => Mem w X w_ [box b0 78 [p0_0, nI t12.2], own kStr 9 v43 ([(⟨#[97]⟩ : ByteArray), (⟨#[]⟩ : ByteArray), (⟨#[110, 101, 119]⟩ : ByteArray)] : List ByteArray), box b28 46 [u25, u26], own kStr 9 u25 t10.1.fTexts, own kSign 119 u26 t10.1.fSigns, box b16 46 [.slice none 0 0, .slice none 0 0]]) ?_ (fun K49 => ?_)
   ·rintro v43 w50 HM
    have hS := HM.sufN 4 rfl
    refine drw_any [7] (by kernel_rfl) rfl (.cons ?_ .nil)
    refine br_does (l' := #[true, true, true, true, true, true, true, true, false, false, false]) rfl (guard_none rfl) rfl rfl (by kernel_rfl) (does_lit (e := 9) (cs := [.string (gt ([(⟨#[97]⟩ : ByteArray), (⟨#[]⟩ : ByteArray), (⟨#[110, 101, 119]⟩ : ByteArray)] : List ByteArray) t12.1)]) (xs := ([(gt ([(⟨#[97]⟩ : ByteArray), (⟨#[]⟩ : ByteArray), (⟨#[110, 101, 119]⟩ : ByteArray)] : List ByteArray) t12.1)] : List ByteArray)) kStr rfl rfl (fun _ => by kernel_rfl) rfl rfl (fun _ _ h => by have h' : _ = [] := h; subst h'; exact (Elems.cons (d := kStr) (x := (gt ([(⟨#[97]⟩ : ByteArray), (⟨#[]⟩ : ByteArray), (⟨#[110, 101, 119]⟩ : ByteArray)] : List ByteArray) t12.1)) (f := []) ⟨rfl, rfl⟩ .nil)) HM.emp) ?_
    rintro v44 w51 HM
    have hS := HM.sufN 5 rfl
    exact ⟨hS, (drw_sub (K45 v43 v44 _ HM) (Sub.of rfl))⟩
   refine drw_cut1 (l' := #[true, true, true, true, true, true, false, false, false, false, false]) (f' := 5) (fun (v43 : Value) => [(2, pA b16 0), (3, pA b28 0), (11, u25), (15, .pointer (some ⟨sb v43, so v43 + (t12.1).toNat * 1, none⟩))]) (fun (v43 : Value) => fun w_ => Mem w X w_ [box b0 78 [p0_0, nI t12.2], own kStr 9 v43 ([(⟨#[97]⟩ : ByteArray), (⟨#[]⟩ : ByteArray), (⟨#[110, 101, 119]⟩ : ByteArray)] : List ByteArray), box b28 46 [u25, u26], own kStr 9 u25 t10.1.fTexts, own kSign 119 u26 t10.1.fSigns, box b16 46 [.slice none 0 0, .slice none 0 0]]) ?_ (fun K52 => ?_)
   ·rintro v43 w53 HM
    have hS := HM.sufN 4 rfl
    refine drw_any [6] (by kernel_rfl) rfl (.cons ?_ .nil)
    refine br_does (l' := #[true, true, true, true, true, true, true, false, false, false, false]) rfl (guard_none rfl) rfl rfl (by kernel_rfl) (does_ex' (ex_load1 rfl rfl U9 rfl ((rd_plain (HM.own_rd 1 rfl) e40) 0 _ rfl))) ?_
    rintro _ _ ⟨rfl, rfl⟩
    exact ⟨hS, (drw_sub (K49 v43 _ HM) (Sub.of rfl))⟩
   refine drw_cut1 (l' := #[true, true, true, true, true, false, false, false, false, false, false]) (f' := 6) (fun (v43 : Value) => [(2, pA b16 0), (3, pA b28 0), (11, u25), (12, v43), (14, nI t12.1)]) (fun (v43 : Value) => fun w_ => Mem w X w_ [box b0 78 [p0_0, nI t12.2], own kStr 9 v43 ([(⟨#[97]⟩ : ByteArray), (⟨#[]⟩ : ByteArray), (⟨#[110, 101, 119]⟩ : ByteArray)] : List ByteArray), box b28 46 [u25, u26], own kStr 9 u25 t10.1.fTexts, own kSign 119 u26 t10.1.fSigns, box b16 46 [.slice none 0 0, .slice none 0 0]]) ?_ (fun K54 => ?_)
   ·rintro v43 w55 HM
    have hS := HM.sufN 4 rfl
    refine dt 5 #[true, true, true, true, true, true, false, false, false, false, false] rfl rfl rfl rfl (by kernel_rfl) (ex_indexAddr (d := kStr) rfl rfl rfl U43 tsz9 (HM.own_rd 1 rfl) (idx_lo e40) (idx_hi e40)) hS ?_
    exact drw_sub (K52 v43 _ HM) (Sub.of rfl)
   refine drw_cut1 (l' := #[true, true, true, true, false, false, false, false, false, false, false]) (f' := 7) (fun (v43 : Value) => [(2, pA b16 0), (3, pA b28 0), (13, pA b0 0), (11, u25), (12, v43)]) (fun (v43 : Value) => fun w_ => Mem w X w_ [own kStr 9 v43 ([(⟨#[97]⟩ : ByteArray), (⟨#[]⟩ : ByteArray), (⟨#[110, 101, 119]⟩ : ByteArray)] : List ByteArray), box b0 78 [p0_0, nI t11.2], box b28 46 [u25, u26], own kStr 9 u25 t10.1.fTexts, own kSign 119 u26 t10.1.fSigns, box b16 46 [.slice none 0 0, .slice none 0 0]]) ?_ (fun K56 => ?_)
   ·rintro v43 w57 HM
    have hS := HM.sufN 4 rfl
    replace HM := HM.fr1 1 rfl
    obtain ⟨F58, hF59, hFn60, hFl61, HMh62, hcl63⟩ := HM.hideN 1 rfl
    refine drw_any [4] (by kernel_rfl) rfl (.cons ?_ .nil)
    refine br_does (l' := #[true, true, true, true, true, false, false, false, false, false, false]) rfl (guard_none rfl) rfl rfl (by kernel_rfl) (does_callk rfl callok16 rfl (spec_l1Next.calls (x0 := (⟨x0.fCode, t11.2⟩ : l1Src)) (x1 := 3) (hide_olds _ _) hF59 hFn60 hFl61 (HMh62.rdo hwo hp0_0) h39)) ?_
    rintro _ w64 ⟨rfl, hn⟩
    replace HM := hcl63 _ _ _ rfl hn
    have hS := HM.sufN 4 rfl
    exact ⟨hS, (drw_sub (K54 v43 _ HM) (Sub.of rfl))⟩
   refine drw_cut0 (l' := #[true, true, false, true, true, false, false, false, false, false, false]) (f' := 7) ([(2, pA b16 0), (3, pA b28 0), (11, u25), (14, nI t12.1)]) (fun w_ => Mem w X w_ [box b0 78 [p0_0, nI t12.2], box b28 46 [u25, u26], own kStr 9 u25 t10.1.fTexts, own kSign 119 u26 t10.1.fSigns, box b16 46 [.slice none 0 0, .slice none 0 0]]) ?_ (fun K65 => ?_)
   ·rintro w66 HM
    have hS := HM.sufN 3 rfl
    refine drw_any [2] (by kernel_rfl) rfl (.cons ?_ .nil)
    refine br_does (l' := #[true, true, true, true, true, false, false, false, false, false, false]) rfl (guard_none rfl) rfl rfl (by kernel_rfl) (does_lit (e := 9) (cs := [.string (⟨#[97]⟩ : ByteArray), .string (⟨#[]⟩ : ByteArray), .string (⟨#[110, 101, 119]⟩ : ByteArray)]) (xs := ([(⟨#[97]⟩ : ByteArray), (⟨#[]⟩ : ByteArray), (⟨#[110, 101, 119]⟩ : ByteArray)] : List ByteArray)) kStr rfl rfl (fun _ => by kernel_rfl) rfl rfl (fun _ _ h => by have h' : _ = [] := h; subst h'; exact (Elems.cons (d := kStr) (x := (⟨#[97]⟩ : ByteArray)) (f := []) ⟨rfl, rfl⟩ (Elems.cons (d := kStr) (x := (⟨#[]⟩ : ByteArray)) (f := []) ⟨rfl, rfl⟩ (Elems.cons (d := kStr) (x := (⟨#[110, 101, 119]⟩ : ByteArray)) (f := []) ⟨rfl, rfl⟩ .nil)))) HM.emp) ?_
    rintro v43 w67 HM
    have hS := HM.sufN 4 rfl
    refine ⟨hS, ?_⟩
    replace HM := ((HM.fr1 5 rfl).fr1 5 rfl).fr1 5 rfl
    replace HM := ((HM.fr1 5 rfl).fr1 4 rfl).fr1 5 rfl
    exact drw_sub (K54 v43 _ HM) (Sub.of rfl)
   refine drw_cut1 (l' := #[true, false, true, true, true, false, false, false, false, false, false]) (f' := 7) (fun (v43 : Value) => [(2, pA b16 0), (3, pA b28 0), (10, pA b28 0), (12, v43), (14, nI t12.1)]) (fun (v43 : Value) => fun w_ => Mem w X w_ [box b0 78 [p0_0, nI t12.2], own kStr 9 v43 ([(⟨#[97]⟩ : ByteArray), (⟨#[]⟩ : ByteArray), (⟨#[110, 101, 119]⟩ : ByteArray)] : List ByteArray), box b28 46 [u25, u26], own kStr 9 u25 t10.1.fTexts, own kSign 119 u26 t10.1.fSigns, box b16 46 [.slice none 0 0, .slice none 0 0]]) ?_ (fun K68 => ?_)
   ·rintro v43 w69 HM
    have hS := HM.sufN 4 rfl
    refine dt 5 #[true, false, true, true, true, true, false, false, false, false, false] rfl rfl rfl rfl (by kernel_rfl) (ex_indexAddr (d := kStr) rfl rfl rfl U43 tsz9 (HM.own_rd 1 rfl) (idx_lo e40) (idx_hi e40)) hS ?_
    refine drw_any [1, 6] (by kernel_rfl) rfl (.cons ?_ (.cons ?_ .nil))
    ·refine br_does (l' := #[true, true, true, true, true, true, false, false, false, false, false]) rfl (guard_none rfl) rfl rfl (by kernel_rfl) (does_ex' (ex_load1 rfl rfl U43 rfl ((HM.box_at 2 rfl) 0 _ rfl))) ?_
     rintro _ _ ⟨rfl, rfl⟩
     exact ⟨hS, (drw_sub (K52 v43 _ HM) (Sub.of rfl))⟩
    ·refine br_does (l' := #[true, false, true, true, true, true, true, false, false, false, false]) rfl (guard_none rfl) rfl rfl (by kernel_rfl) (does_ex' (ex_load1 rfl rfl U9 rfl ((rd_plain (HM.own_rd 1 rfl) e40) 0 _ rfl))) ?_
     rintro _ _ ⟨rfl, rfl⟩
     refine ⟨hS, (drw_any [1, 7] (by kernel_rfl) rfl (.cons ?_ (.cons ?_ .nil)))⟩
     ·refine br_does (l' := #[true, true, true, true, true, true, true, false, false, false, false]) rfl (guard_none rfl) rfl rfl (by kernel_rfl) (does_ex' (ex_load1 rfl rfl U43 rfl ((HM.box_at 2 rfl) 0 _ rfl))) ?_
      rintro _ _ ⟨rfl, rfl⟩
      exact ⟨hS, (drw_sub (K49 v43 _ HM) (Sub.of rfl))⟩
     ·refine br_does (l' := #[true, false, true, true, true, true, true, true, false, false, false]) rfl (guard_none rfl) rfl rfl (by kernel_rfl) (does_lit (e := 9) (cs := [.string (gt ([(⟨#[97]⟩ : ByteArray), (⟨#[]⟩ : ByteArray), (⟨#[110, 101, 119]⟩ : ByteArray)] : List ByteArray) t12.1)]) (xs := ([(gt ([(⟨#[97]⟩ : ByteArray), (⟨#[]⟩ : ByteArray), (⟨#[110, 101, 119]⟩ : ByteArray)] : List ByteArray) t12.1)] : List ByteArray)) kStr rfl rfl (fun _ => by kernel_rfl) rfl rfl (fun _ _ h => by have h' : _ = [] := h; subst h'; exact (Elems.cons (d := kStr) (x := (gt ([(⟨#[97]⟩ : ByteArray), (⟨#[]⟩ : ByteArray), (⟨#[110, 101, 119]⟩ : ByteArray)] : List ByteArray) t12.1)) (f := []) ⟨rfl, rfl⟩ .nil)) HM.emp) ?_
      rintro v44 w70 HM
      have hS := HM.sufN 5 rfl
      refine ⟨hS, (drw_any [1] (by kernel_rfl) rfl (.cons ?_ .nil))⟩
      refine br_does (l' := #[true, true, true, true, true, true, true, true, false, false, false]) rfl (guard_none rfl) rfl rfl (by kernel_rfl) (does_ex' (ex_load1 rfl rfl U43 rfl ((HM.box_at 3 rfl) 0 _ rfl))) ?_
      rintro _ _ ⟨rfl, rfl⟩
      exact ⟨hS, (drw_sub (K45 v43 v44 _ HM) (Sub.of rfl))⟩
   refine dt 0 #[true, false, false, false, false, false, false, false, false, false, false] rfl rfl rfl rfl (by kernel_rfl) (ex_fieldAddr (off' := 0) rfl rfl U46 rfl tsz43 rfl) hS ?_
   refine dt 3 #[true, false, false, true, false, false, false, false, false, false, false] rfl rfl rfl rfl (by kernel_rfl) (ex_move rfl rfl) hS ?_
   refine drw_any [1, 2, 4] (by kernel_rfl) rfl (.cons ?_ (.cons ?_ (.cons ?_ .nil)))
   ·refine br_does (l' := #[true, true, false, true, false, false, false, false, false, false, false]) rfl (guard_none rfl) rfl rfl (by kernel_rfl) (does_ex' (ex_load1 rfl rfl U43 rfl ((HM.box_at 1 rfl) 0 _ rfl))) ?_
    rintro _ _ ⟨rfl, rfl⟩
    refine ⟨hS, (drw_any [2, 4] (by kernel_rfl) rfl (.cons ?_ (.cons ?_ .nil)))⟩
    ·refine br_does (l' := #[true, true, true, true, false, false, false, false, false, false, false]) rfl (guard_none rfl) rfl rfl (by kernel_rfl) (does_lit (e := 9) (cs := [.string (⟨#[97]⟩ : ByteArray), .string (⟨#[]⟩ : ByteArray), .string (⟨#[110, 101, 119]⟩ : ByteArray)]) (xs := ([(⟨#[97]⟩ : ByteArray), (⟨#[]⟩ : ByteArray), (⟨#[110, 101, 119]⟩ : ByteArray)] : List ByteArray)) kStr rfl rfl (fun _ => by kernel_rfl) rfl rfl (fun _ _ h => by have h' : _ = [] := h; subst h'; exact (Elems.cons (d := kStr) (x := (⟨#[97]⟩ : ByteArray)) (f := []) ⟨rfl, rfl⟩ (Elems.cons (d := kStr) (x := (⟨#[]⟩ : ByteArray)) (f := []) ⟨rfl, rfl⟩ (Elems.cons (d := kStr) (x := (⟨#[110, 101, 119]⟩ : ByteArray)) (f := []) ⟨rfl, rfl⟩ .nil)))) HM.emp) ?_
     rintro v43 w71 HM
     have hS := HM.sufN 4 rfl
     exact ⟨hS, (drw_sub (K56 v43 _ HM) (Sub.of rfl))⟩
    ·obtain ⟨F58, hF59, hFn60, hFl61, HMh62, hcl63⟩ := HM.hideN 1 rfl
     refine br_does (l' := #[true, true, false, true, true, false, false, false, false, false, false]) rfl (guard_none rfl) rfl rfl (by kernel_rfl) (does_callk rfl callok16 rfl (spec_l1Next.calls (x0 := (⟨x0.fCode, t11.2⟩ : l1Src)) (x1 := 3) (hide_olds _ _) hF59 hFn60 hFl61 (HMh62.rdo hwo hp0_0) h39)) ?_
     rintro _ w72 ⟨rfl, hn⟩
     replace HM := hcl63 _ _ _ rfl hn
     have hS := HM.sufN 3 rfl
     exact ⟨hS, (drw_sub (K65 _ HM) (Sub.of rfl))⟩
   ·refine br_does (l' := #[true, false, true, true, false, false, false, false, false, false, false]) rfl (guard_none rfl) rfl rfl (by kernel_rfl) (does_lit (e := 9) (cs := [.string (⟨#[97]⟩ : ByteArray), .string (⟨#[]⟩ : ByteArray), .string (⟨#[110, 101, 119]⟩ : ByteArray)]) (xs := ([(⟨#[97]⟩ : ByteArray), (⟨#[]⟩ : ByteArray), (⟨#[110, 101, 119]⟩ : ByteArray)] : List ByteArray)) kStr rfl rfl (fun _ => by kernel_rfl) rfl rfl (fun _ _ h => by have h' : _ = [] := h; subst h'; exact (Elems.cons (d := kStr) (x := (⟨#[97]⟩ : ByteArray)) (f := []) ⟨rfl, rfl⟩ (Elems.cons (d := kStr) (x := (⟨#[]⟩ : ByteArray)) (f := []) ⟨rfl, rfl⟩ (Elems.cons (d := kStr) (x := (⟨#[110, 101, 119]⟩ : ByteArray)) (f := []) ⟨rfl, rfl⟩ .nil)))) HM.emp) ?_
    rintro v43 w73 HM
    have hS := HM.sufN 4 rfl
    refine ⟨hS, (drw_any [1, 4] (by kernel_rfl) rfl (.cons ?_ (.cons ?_ .nil)))⟩
    ·refine br_does (l' := #[true, true, true, true, false, false, false, false, false, false, false]) rfl (guard_none rfl) rfl rfl (by kernel_rfl) (does_ex' (ex_load1 rfl rfl U43 rfl ((HM.box_at 2 rfl) 0 _ rfl))) ?_
     rintro _ _ ⟨rfl, rfl⟩
     exact ⟨hS, (drw_sub (K56 v43 _ HM) (Sub.of rfl))⟩
    ·replace HM := HM.fr1 1 rfl
     obtain ⟨F58, hF59, hFn60, hFl61, HMh62, hcl63⟩ := HM.hideN 1 rfl
     refine br_does (l' := #[true, false, true, true, true, false, false, false, false, false, false]) rfl (guard_none rfl) rfl rfl (by kernel_rfl) (does_callk rfl callok16 rfl (spec_l1Next.calls (x0 := (⟨x0.fCode, t11.2⟩ : l1Src)) (x1 := 3) (hide_olds _ _) hF59 hFn60 hFl61 (HMh62.rdo hwo hp0_0) h39)) ?_
     rintro _ w74 ⟨rfl, hn⟩
     replace HM := hcl63 _ _ _ rfl hn
     have hS := HM.sufN 4 rfl
     exact ⟨hS, (drw_sub (K68 v43 _ HM) (Sub.of rfl))⟩
   ·obtain ⟨F58, hF59, hFn60, hFl61, HMh62, hcl63⟩ := HM.hideN 1 rfl
    refine br_does (l' := #[true, false, false, true, true, false, false, false, false, false, false]) rfl (guard_none rfl) rfl rfl (by kernel_rfl) (does_callk rfl callok16 rfl (spec_l1Next.calls (x0 := (⟨x0.fCode, t11.2⟩ : l1Src)) (x1 := 3) (hide_olds _ _) hF59 hFn60 hFl61 (HMh62.rdo hwo hp0_0) h39)) ?_
    rintro _ w75 ⟨rfl, hn⟩
    replace HM := hcl63 _ _ _ rfl hn
    have hS := HM.sufN 3 rfl
    refine ⟨hS, (drw_any [1, 2] (by kernel_rfl) rfl (.cons ?_ (.cons ?_ .nil)))⟩
    ·refine br_does (l' := #[true, true, false, true, true, false, false, false, false, false, false]) rfl (guard_none rfl) rfl rfl (by kernel_rfl) (does_ex' (ex_load1 rfl rfl U43 rfl ((HM.box_at 1 rfl) 0 _ rfl))) ?_
     rintro _ _ ⟨rfl, rfl⟩
     exact ⟨hS, (drw_sub (K65 _ HM) (Sub.of rfl))⟩
    ·refine br_does (l' := #[true, false, true, true, true, false, false, false, false, false, false]) rfl (guard_none rfl) rfl rfl (by kernel_rfl) (does_lit (e := 9) (cs := [.string (⟨#[97]⟩ : ByteArray), .string (⟨#[]⟩ : ByteArray), .string (⟨#[110, 101, 119]⟩ : ByteArray)]) (xs := ([(⟨#[97]⟩ : ByteArray), (⟨#[]⟩ : ByteArray), (⟨#[110, 101, 119]⟩ : ByteArray)] : List ByteArray)) kStr rfl rfl (fun _ => by kernel_rfl) rfl rfl (fun _ _ h => by have h' : _ = [] := h; subst h'; exact (Elems.cons (d := kStr) (x := (⟨#[97]⟩ : ByteArray)) (f := []) ⟨rfl, rfl⟩ (Elems.cons (d := kStr) (x := (⟨#[]⟩ : ByteArray)) (f := []) ⟨rfl, rfl⟩ (Elems.cons (d := kStr) (x := (⟨#[110, 101, 119]⟩ : ByteArray)) (f := []) ⟨rfl, rfl⟩ .nil)))) HM.emp) ?_
     rintro v43 w76 HM
     have hS := HM.sufN 4 rfl
     refine ⟨hS, ?_⟩
     replace HM := ((HM.fr1 5 rfl).fr1 5 rfl).fr1 5 rfl
     replace HM := ((HM.fr1 5 rfl).fr1 4 rfl).fr1 5 rfl
     exact drw_sub (K68 v43 _ HM) (Sub.of rfl)
  ·rintro _ w77 ⟨v42, rfl, HM⟩
   refine at_block (at_then (run_seq (run_region rfl (oy rfl (ldN rfl rfl U46 rfl tsz46 ((HM.box_at 2 rfl).subL 0 2 rfl) rfl) ?_))))
   replace HM := HM.fr1 1 rfl
   refine odS rfl rfl rfl (does_store (vs := [v42, u26]) (cs' := [v42, u26]) rfl rfl rfl rfl tsz46 (Ones.rd (HM.own_rd 3 rfl) (Ones.rd (HM.own_rd 4 rfl) Ones.nil)) rfl rfl HM) ?_
   rintro w78 HM
   refine ops_nil (at_then (run_ret ?_))
   replace HM := ((HM.frd 2 rfl).fr1 1 rfl).fr1 3 rfl
   replace HM := (HM.fr1 3 rfl).fr1 3 rfl
   have hcb0 := HM.box_at 0 rfl
   replace HM := HM.frd 0 rfl
   cases H
   exact at_retN rfl rfl U46 rfl tsz46 rfl hcb0 ⟨_, rfl, _, _, rfl, HM⟩
 ·replace H := cond_f hb38 H
  refine run_seq (run_region rfl (oy rfl (ex_eql rfl rfl rfl) (oM rfl (ops_nil (at_then (run_cond (b := (t11.1 == 1)) rfl (fun hb79 => ?_) (fun hb79 => ?_)))))))
  ·replace H := cond_t hb79 H
   obtain ⟨t13, h80, H⟩ := bind_some H
   obtain ⟨t14, h81, H⟩ := bind_some H
   obtain ⟨e82, H⟩ := chk_some H
   refine run_meet (fun ρ_ w_ => ∃ v83 : Value, ρ_ = [(2, pA b16 0), (3, pA b28 0)] ∧ Mem w X w_ [box b0 78 [p0_0, nI t14.2], box b16 46 [.slice none 0 0, .slice none 0 0], box b28 46 [u25, v83], own kStr 9 u25 t10.1.fTexts, own kSign 119 v83 (t10.1.fSigns ++ ([(⟨t13.1, t14.1⟩ : Sign)] : List Sign))]) ?_ ?_
   ·replace HM := ((HM.fr1 3 rfl).fr1 2 rfl).fr1 2 rfl
    refine run_draw (fun w_ => Mem w X w_ [own kStr 9 u25 t10.1.fTexts, box b16 46 [.slice none 0 0, .slice none 0 0]]) mixed rfl (l := #[false, false, false, false, false, false, false, false, false, false, false, false, false]) rfl ?_
    replace HM := HM.grow (fr_drew _)
    have hS := HM.sufN 3 rfl
    refine drw_cut3 (l' := (bs 13 1023)) (f' := 3) (fun (v84 : Value) => fun (v85 : Value) => fun (v86 : Value) => [(2, pA b16 0), (3, pA b28 0), (23, u26), (31, v86)]) (fun (v84 : Value) => fun (v85 : Value) => fun (v86 : Value) => fun w_ => Mem w X w_ [own kSign 119 v86 ([(⟨t13.1, t14.1⟩ : Sign)] : List Sign), box b0 78 [p0_0, nI t14.2], own kInt 2 v85 ([1, 9, 0] : List Int), own kInt 2 v84 ([1, 0, 1000] : List Int), box b28 46 [u25, u26], own kSign 119 u26 t10.1.fSigns, own kStr 9 u25 t10.1.fTexts, box b16 46 [.slice none 0 0, .slice none 0 0]]) ?_ (fun K87 => ?_)
    ·rintro v84 v85 v86 w88 HM
     have hS := HM.sufN 6 rfl
     replace HM := HM.fr1 5 rfl
     refine drw_any [10] (by kernel_rfl) rfl (.cons ?_ .nil)
     refine br_does (l' := (bs 13 2047)) rfl (guard_none rfl) rfl rfl (by kernel_rfl) (does_appendR kSign flat_plain rfl rfl rfl U44 tsz119 rfl tby119 tz119 rfl rfl (leB_le e82) (HM.own_rd 1 rfl) HM) ?_
     rintro v83 w89 HM
     have hS := HM.sufN 6 rfl
     refine ⟨hS, (dt 11 (bs 13 4095) rfl rfl rfl rfl (by kernel_rfl) (ex_fieldAddr (off' := 1) rfl rfl U46 rfl tsz44 rfl) hS ?_)⟩
     replace HM := HM.fr1 5 rfl
     refine drw_any [12] (by kernel_rfl) rfl (.cons ?_ .nil)
     refine br_doesS (l' := (bs 13 8191)) rfl (guard_none rfl) rfl (by kernel_rfl) (does_store (vs := [v83]) (cs' := [u25, v83]) rfl rfl rfl (rd_cells (HM.own_rd 1 rfl)) tsz44 (Ones.rd (HM.own_rd 1 rfl) Ones.nil) rfl rfl HM) ?_
     rintro w90 HM
     have hS := HM.sufN 6 rfl
     refine ⟨hS, (drw_done (by kernel_rfl) ?_)⟩
     replace HM := ((HM.frd 2 rfl).frd 3 rfl).frd 3 rfl
     replace HM := ((HM.fr1 1 rfl).fr1 3 rfl).fr1 2 rfl
     replace HM := (HM.fr1 4 rfl).fr1 4 rfl
     exact at_meet _ ⟨_, rfl, HM⟩ (Sub.of rfl)
    refine drw_cut2 (l' := (bs 13 511)) (f' := 4) (fun (v84 : Value) => fun (v85 : Value) => [(2, pA b16 0), (3, pA b28 0), (23, u26), (30, .agg #[(nI t13.1), (nI t14.1)])]) (fun (v84 : Value) => fun (v85 : Value) => fun w_ => Mem w X w_ [box b0 78 [p0_0, nI t14.2], own kInt 2 v85 ([1, 9, 0] : List Int), own kInt 2 v84 ([1, 0, 1000] : List Int), box b28 46 [u25, u26], own kSign 119 u26 t10.1.fSigns, own kStr 9 u25 t10.1.fTexts, box b16 46 [.slice none 0 0, .slice none 0 0]]) ?_ (fun K91 => ?_)
    ·rintro v84 v85 w92 HM
     have hS := HM.sufN 5 rfl
     refine drw_any [9] (by kernel_rfl) rfl (.cons ?_ .nil)
     refine br_does (l' := (bs 13 1023)) rfl (guard_none rfl) rfl rfl (by kernel_rfl) (does_lit (e := 119) (cs := [nI t13.1, nI t14.1]) (xs := ([(⟨t13.1, t14.1⟩ : Sign)] : List Sign)) kSign rfl rfl (fun _ => by kernel_rfl) rfl rfl (fun _ _ h => by have h' : _ = [] := h; subst h'; exact (Elems.cons (d := kSign) (x := (⟨t13.1, t14.1⟩ : Sign)) (f := []) ⟨rfl, rfl⟩ .nil)) HM.emp) ?_
     rintro v86 w93 HM
     have hS := HM.sufN 6 rfl
     exact ⟨hS, (drw_sub (K87 v84 v85 v86 _ HM) (Sub.of rfl))⟩
    refine drw_cut2 (l' := (bs 13 127)) (f' := 6) (fun (v84 : Value) => fun (v85 : Value) => [(2, pA b16 0), (3, pA b28 0), (27, pA b0 0), (23, u26), (26, nI t13.1), (28, v85)]) (fun (v84 : Value) => fun (v85 : Value) => fun w_ => Mem w X w_ [own kInt 2 v85 ([1, 9, 0] : List Int), box b0 78 [p0_0, nI t13.2], own kInt 2 v84 ([1, 0, 1000] : List Int), box b28 46 [u25, u26], own kSign 119 u26 t10.1.fSigns, own kStr 9 u25 t10.1.fTexts, box b16 46 [.slice none 0 0, .slice none 0 0]]) ?_ (fun K94 => ?_)
    ·rintro v84 v85 w95 HM
     have hS := HM.sufN 5 rfl
     replace HM := HM.fr1 1 rfl
     obtain ⟨F96, hF97, hFn98, hFl99, HMh100, hcl101⟩ := HM.hideN 1 rfl
     refine drw_any [7] (by kernel_rfl) rfl (.cons ?_ .nil)
     refine br_does (l' := (bs 13 255)) rfl (guard_none rfl) rfl rfl (by kernel_rfl) (does_callk rfl callok15 rfl (spec_l1Pick.calls (x0 := (⟨x0.fCode, t13.2⟩ : l1Src)) (x1 := ([1, 9, 0] : List Int)) (hide_olds _ _) hF97 hFn98 hFl99 (HMh100.rdo hwo hp0_0) (HMh100.own_rd 0 rfl) h81)) ?_
     rintro _ w102 ⟨rfl, hn⟩
     replace HM := hcl101 _ _ _ rfl hn
     have hS := HM.sufN 5 rfl
     refine ⟨hS, (dt 8 (bs 13 511) rfl rfl rfl rfl (by kernel_rfl) (ex_build (cells := #[(nI t13.1), (nI t14.1)]) rfl rfl (by kernel_rfl)) hS ?_)⟩
     exact drw_sub (K91 v84 v85 _ HM) (Sub.of rfl)
    refine drw_cut1 (l' := (bs 13 63)) (f' := 7) (fun (v84 : Value) => [(2, pA b16 0), (3, pA b28 0), (27, pA b0 0), (23, u26), (26, nI t13.1)]) (fun (v84 : Value) => fun w_ => Mem w X w_ [box b0 78 [p0_0, nI t13.2], own kInt 2 v84 ([1, 0, 1000] : List Int), box b28 46 [u25, u26], own kSign 119 u26 t10.1.fSigns, own kStr 9 u25 t10.1.fTexts, box b16 46 [.slice none 0 0, .slice none 0 0]]) ?_ (fun K103 => ?_)
    ·rintro v84 w104 HM
     have hS := HM.sufN 4 rfl
     refine drw_any [6] (by kernel_rfl) rfl (.cons ?_ .nil)
     refine br_does (l' := (bs 13 127)) rfl (guard_none rfl) rfl rfl (by kernel_rfl) (does_lit (e := 2) (cs := [nI 1, nI 9, nI 0]) (xs := ([1, 9, 0] : List Int)) kInt rfl rfl (fun _ => by kernel_rfl) rfl rfl (fun _ _ h => by have h' : _ = [] := h; subst h'; exact (Elems.cons (d := kInt) (x := 1) (f := []) ⟨rfl, rfl⟩ (Elems.cons (d := kInt) (x := 9) (f := []) ⟨rfl, rfl⟩ (Elems.cons (d := kInt) (x := 0) (f := []) ⟨rfl, rfl⟩ .nil)))) HM.emp) ?_
     rintro v85 w105 HM
     have hS := HM.sufN 5 rfl
     exact ⟨hS, (drw_sub (K94 v84 v85 _ HM) (Sub.of rfl))⟩
    refine drw_cut2 (l' := (bs 13 111)) (f' := 7) (fun (v84 : Value) => fun (v85 : Value) => [(2, pA b16 0), (3, pA b28 0), (24, pA b0 0), (27, pA b0 0), (23, u26), (25, v84), (28, v85)]) (fun (v84 : Value) => fun (v85 : Value) => fun w_ => Mem w X w_ [own kInt 2 v85 ([1, 9, 0] : List Int), own kInt 2 v84 ([1, 0, 1000] : List Int), box b0 78 [p0_0, nI t11.2], box b28 46 [u25, u26], own kSign 119 u26 t10.1.fSigns, own kStr 9 u25 t10.1.fTexts, box b16 46 [.slice none 0 0, .slice none 0 0]]) ?_ (fun K106 => ?_)
    ·rintro v84 v85 w107 HM
     have hS := HM.sufN 5 rfl
     replace HM := HM.fr1 2 rfl
     obtain ⟨F108, hF109, hFn110, hFl111, HMh112, hcl113⟩ := HM.hideN 1 rfl
     refine drw_any [4] (by kernel_rfl) rfl (.cons ?_ .nil)
     refine br_does (l' := (bs 13 127)) rfl (guard_none rfl) rfl rfl (by kernel_rfl) (does_callk rfl callok15 rfl (spec_l1Pick.calls (x0 := (⟨x0.fCode, t11.2⟩ : l1Src)) (x1 := ([1, 0, 1000] : List Int)) (hide_olds _ _) hF109 hFn110 hFl111 (HMh112.rdo hwo hp0_0) (HMh112.own_rd 1 rfl) h80)) ?_
     rintro _ w114 ⟨rfl, hn⟩
     replace HM := hcl113 _ _ _ rfl hn
     have hS := HM.sufN 5 rfl
     refine ⟨hS, ?_⟩
     replace HM := ((HM.fr1 6 rfl).fr1 6 rfl).fr1 6 rfl
     replace HM := ((HM.fr1 6 rfl).fr1 6 rfl).fr1 5 rfl
     replace HM := HM.fr1 6 rfl
     exact drw_sub (K94 v84 v85 _ HM) (Sub.of rfl)
    refine drw_cut2 (l' := (bs 13 125)) (f' := 7) (fun (v84 : Value) => fun (v85 : Value) => [(2, pA b16 0), (3, pA b28 0), (22, pA b28 1), (27, pA b0 0), (26, nI t13.1), (28, v85)]) (fun (v84 : Value) => fun (v85 : Value) => fun w_ => Mem w X w_ [own kInt 2 v85 ([1, 9, 0] : List Int), box b0 78 [p0_0, nI t13.2], own kInt 2 v84 ([1, 0, 1000] : List Int), box b28 46 [u25, u26], own kSign 119 u26 t10.1.fSigns, own kStr 9 u25 t10.1.fTexts, box b16 46 [.slice none 0 0, .slice none 0 0]]) ?_ (fun K115 => ?_)
    ·rintro v84 v85 w116 HM
     have hS := HM.sufN 5 rfl
     refine drw_any [1, 7] (by kernel_rfl) rfl (.cons ?_ (.cons ?_ .nil))
     ·refine br_does (l' := (bs 13 127)) rfl (guard_none rfl) rfl rfl (by kernel_rfl) (does_ex' (ex_load1 rfl rfl U44 rfl ((HM.box_at 3 rfl) 1 _ rfl))) ?_
      rintro _ _ ⟨rfl, rfl⟩
      exact ⟨hS, (drw_sub (K94 v84 v85 _ HM) (Sub.of rfl))⟩
     ·replace HM := HM.fr1 1 rfl
      obtain ⟨F96, hF97, hFn98, hFl99, HMh100, hcl101⟩ := HM.hideN 1 rfl
      refine br_does (l' := (bs 13 253)) rfl (guard_none rfl) rfl rfl (by kernel_rfl) (does_callk rfl callok15 rfl (spec_l1Pick.calls (x0 := (⟨x0.fCode, t13.2⟩ : l1Src)) (x1 := ([1, 9, 0] : List Int)) (hide_olds _ _) hF97 hFn98 hFl99 (HMh100.rdo hwo hp0_0) (HMh100.own_rd 0 rfl) h81)) ?_
      rintro _ w117 ⟨rfl, hn⟩
      replace HM := hcl101 _ _ _ rfl hn
      have hS := HM.sufN 5 rfl
      refine ⟨hS, (dt 8 (bs 13 509) rfl rfl rfl rfl (by kernel_rfl) (ex_build (cells := #[(nI t13.1), (nI t14.1)]) rfl rfl (by kernel_rfl)) hS ?_)⟩
      refine drw_any [1, 9] (by kernel_rfl) rfl (.cons ?_ (.cons ?_ .nil))
      ·refine br_does (l' := (bs 13 511)) rfl (guard_none rfl) rfl rfl (by kernel_rfl) (does_ex' (ex_load1 rfl rfl U44 rfl ((HM.box_at 3 rfl) 1 _ rfl))) ?_
       rintro _ _ ⟨rfl, rfl⟩
       exact ⟨hS, (drw_sub (K91 v84 v85 _ HM) (Sub.of rfl))⟩
      ·refine br_does (l' := (bs 13 1021)) rfl (guard_none rfl) rfl rfl (by kernel_rfl) (does_lit (e := 119) (cs := [nI t13.1, nI t14.1]) (xs := ([(⟨t13.1, t14.1⟩ : Sign)] : List Sign)) kSign rfl rfl (fun _ => by kernel_rfl) rfl rfl (fun _ _ h => by have h' : _ = [] := h; subst h'; exact (Elems.cons (d := kSign) (x := (⟨t13.1, t14.1⟩ : Sign)) (f := []) ⟨rfl, rfl⟩ .nil)) HM.emp) ?_
       rintro v86 w118 HM
       have hS := HM.sufN 6 rfl
       refine ⟨hS, (drw_any [1] (by kernel_rfl) rfl (.cons ?_ .nil))⟩
       refine br_does (l' := (bs 13 1023)) rfl (guard_none rfl) rfl rfl (by kernel_rfl) (does_ex' (ex_load1 rfl rfl U44 rfl ((HM.box_at 4 rfl) 1 _ rfl))) ?_
       rintro _ _ ⟨rfl, rfl⟩
       exact ⟨hS, (drw_sub (K87 v84 v85 v86 _ HM) (Sub.of rfl))⟩
    refine drw_cut1 (l' := (bs 13 47)) (f' := 8) (fun (v84 : Value) => [(2, pA b16 0), (3, pA b28 0), (24, pA b0 0), (27, pA b0 0), (23, u26), (25, v84)]) (fun (v84 : Value) => fun w_ => Mem w X w_ [own kInt 2 v84 ([1, 0, 1000] : List Int), box b0 78 [p0_0, nI t11.2], box b28 46 [u25, u26], own kSign 119 u26 t10.1.fSigns, own kStr 9 u25 t10.1.fTexts, box b16 46 [.slice none 0 0, .slice none 0 0]]) ?_ (fun K119 => ?_)
    ·rintro v84 w120 HM
     have hS := HM.sufN 4 rfl
     refine drw_any [4, 6] (by kernel_rfl) rfl (.cons ?_ (.cons ?_ .nil))
     ·replace HM := HM.fr1 1 rfl
      obtain ⟨F108, hF109, hFn110, hFl111, HMh112, hcl113⟩ := HM.hideN 1 rfl
      refine br_does (l' := (bs 13 63)) rfl (guard_none rfl) rfl rfl (by kernel_rfl) (does_callk rfl callok15 rfl (spec_l1Pick.calls (x0 := (⟨x0.fCode, t11.2⟩ : l1Src)) (x1 := ([1, 0, 1000] : List Int)) (hide_olds _ _) hF109 hFn110 hFl111 (HMh112.rdo hwo hp0_0) (HMh112.own_rd 0 rfl) h80)) ?_
      rintro _ w121 ⟨rfl, hn⟩
      replace HM := hcl113 _ _ _ rfl hn
      have hS := HM.sufN 4 rfl
      exact ⟨hS, (drw_sub (K103 v84 _ HM) (Sub.of rfl))⟩
     ·refine br_does (l' := (bs 13 111)) rfl (guard_none rfl) rfl rfl (by kernel_rfl) (does_lit (e := 2) (cs := [nI 1, nI 9, nI 0]) (xs := ([1, 9, 0] : List Int)) kInt rfl rfl (fun _ => by kernel_rfl) rfl rfl (fun _ _ h => by have h' : _ = [] := h; subst h'; exact (Elems.cons (d := kInt) (x := 1) (f := []) ⟨rfl, rfl⟩ (Elems.cons (d := kInt) (x := 9) (f := []) ⟨rfl, rfl⟩ (Elems.cons (d := kInt) (x := 0) (f := []) ⟨rfl, rfl⟩ .nil)))) HM.emp) ?_
      rintro v85 w122 HM
      have hS := HM.sufN 5 rfl
      exact ⟨hS, (drw_sub (K106 v84 v85 _ HM) (Sub.of rfl))⟩
    refine drw_cut1 (l' := (bs 13 103)) (f' := 8) (fun (v85 : Value) => [(2, pA b16 0), (3, pA b28 0), (24, pA b0 0), (27, pA b0 0), (23, u26), (28, v85)]) (fun (v85 : Value) => fun w_ => Mem w X w_ [own kInt 2 v85 ([1, 9, 0] : List Int), box b0 78 [p0_0, nI t11.2], box b28 46 [u25, u26], own kSign 119 u26 t10.1.fSigns, own kStr 9 u25 t10.1.fTexts, box b16 46 [.slice none 0 0, .slice none 0 0]]) ?_ (fun K123 => ?_)
    ·rintro v85 w124 HM
     have hS := HM.sufN 4 rfl
     refine drw_any [3] (by kernel_rfl) rfl (.cons ?_ .nil)
     refine br_does (l' := (bs 13 111)) rfl (guard_none rfl) rfl rfl (by kernel_rfl) (does_lit (e := 2) (cs := [nI 1, nI 0, nI 1000]) (xs := ([1, 0, 1000] : List Int)) kInt rfl rfl (fun _ => by kernel_rfl) rfl rfl (fun _ _ h => by have h' : _ = [] := h; subst h'; exact (Elems.cons (d := kInt) (x := 1) (f := []) ⟨rfl, rfl⟩ (Elems.cons (d := kInt) (x := 0) (f := []) ⟨rfl, rfl⟩ (Elems.cons (d := kInt) (x := 1000) (f := []) ⟨rfl, rfl⟩ .nil)))) HM.emp) ?_
     rintro v84 w125 HM
     have hS := HM.sufN 5 rfl
     refine ⟨hS, ?_⟩
     replace HM := ((HM.fr1 6 rfl).fr1 6 rfl).fr1 6 rfl
     replace HM := ((HM.fr1 6 rfl).fr1 6 rfl).fr1 5 rfl
     replace HM := HM.fr1 6 rfl
     exact drw_sub (K106 v84 v85 _ HM) (Sub.of rfl)
    refine drw_cut2 (l' := (bs 13 109)) (f' := 8) (fun (v84 : Value) => fun (v85 : Value) => [(2, pA b16 0), (3, pA b28 0), (22, pA b28 1), (24, pA b0 0), (27, pA b0 0), (25, v84), (28, v85)]) (fun (v84 : Value) => fun (v85 : Value) => fun w_ => Mem w X w_ [own kInt 2 v85 ([1, 9, 0] : List Int), own kInt 2 v84 ([1, 0, 1000] : List Int), box b0 78 [p0_0, nI t11.2], box b28 46 [u25, u26], own kSign 119 u26 t10.1.fSigns, own kStr 9 u25 t10.1.fTexts, box b16 46 [.slice none 0 0, .slice none 0 0]]) ?_ (fun K126 => ?_)
    ·rintro v84 v85 w127 HM
     have hS := HM.sufN 5 rfl
     refine drw_any [1, 4] (by kernel_rfl) rfl (.cons ?_ (.cons ?_ .nil))
     ·refine br_does (l' := (bs 13 111)) rfl (guard_none rfl) rfl rfl (by kernel_rfl) (does_ex' (ex_load1 rfl rfl U44 rfl ((HM.box_at 3 rfl) 1 _ rfl))) ?_
      rintro _ _ ⟨rfl, rfl⟩
      exact ⟨hS, (drw_sub (K106 v84 v85 _ HM) (Sub.of rfl))⟩
     ·replace HM := HM.fr1 2 rfl
      obtain ⟨F108, hF109, hFn110, hFl111, HMh112, hcl113⟩ := HM.hideN 1 rfl
      refine br_does (l' := (bs 13 125)) rfl (guard_none rfl) rfl rfl (by kernel_rfl) (does_callk rfl callok15 rfl (spec_l1Pick.calls (x0 := (⟨x0.fCode, t11.2⟩ : l1Src)) (x1 := ([1, 0, 1000] : List Int)) (hide_olds _ _) hF109 hFn110 hFl111 (HMh112.rdo hwo hp0_0) (HMh112.own_rd 1 rfl) h80)) ?_
      rintro _ w128 ⟨rfl, hn⟩
      replace HM := hcl113 _ _ _ rfl hn
      have hS := HM.sufN 5 rfl
      refine ⟨hS, ?_⟩
      replace HM := ((HM.fr1 6 rfl).fr1 6 rfl).fr1 6 rfl
      replace HM := ((HM.fr1 6 rfl).fr1 6 rfl).fr1 5 rfl
      replace HM := HM.fr1 6 rfl
      exact drw_sub (K115 v84 v85 _ HM) (Sub.of rfl)
    refine dt 0 (bs 13 1) rfl rfl rfl rfl (by kernel_rfl) (ex_fieldAddr (off' := 1) rfl rfl U46 rfl tsz44 rfl) hS ?_
    refine dt 2 (bs 13 5) rfl rfl rfl rfl (by kernel_rfl) (ex_move rfl rfl) hS ?_
    refine dt 5 (bs 13 37) rfl rfl rfl rfl (by kernel_rfl) (ex_move rfl rfl) hS ?_
    refine drw_any [1, 3, 6] (by kernel_rfl) rfl (.cons ?_ (.cons ?_ (.cons ?_ .nil)))
    ·refine br_does (l' := (bs 13 39)) rfl (guard_none rfl) rfl rfl (by kernel_rfl) (does_ex' (ex_load1 rfl rfl U44 rfl ((HM.box_at 1 rfl) 1 _ rfl))) ?_
     rintro _ _ ⟨rfl, rfl⟩
     refine ⟨hS, (drw_any [3, 6] (by kernel_rfl) rfl (.cons ?_ (.cons ?_ .nil)))⟩
     ·refine br_does (l' := (bs 13 47)) rfl (guard_none rfl) rfl rfl (by kernel_rfl) (does_lit (e := 2) (cs := [nI 1, nI 0, nI 1000]) (xs := ([1, 0, 1000] : List Int)) kInt rfl rfl (fun _ => by kernel_rfl) rfl rfl (fun _ _ h => by have h' : _ = [] := h; subst h'; exact (Elems.cons (d := kInt) (x := 1) (f := []) ⟨rfl, rfl⟩ (Elems.cons (d := kInt) (x := 0) (f := []) ⟨rfl, rfl⟩ (Elems.cons (d := kInt) (x := 1000) (f := []) ⟨rfl, rfl⟩ .nil)))) HM.emp) ?_
      rintro v84 w129 HM
      have hS := HM.sufN 4 rfl
      exact ⟨hS, (drw_sub (K119 v84 _ HM) (Sub.of rfl))⟩
     ·refine br_does (l' := (bs 13 103)) rfl (guard_none rfl) rfl rfl (by kernel_rfl) (does_lit (e := 2) (cs := [nI 1, nI 9, nI 0]) (xs := ([1, 9, 0] : List Int)) kInt rfl rfl (fun _ => by kernel_rfl) rfl rfl (fun _ _ h => by have h' : _ = [] := h; subst h'; exact (Elems.cons (d := kInt) (x := 1) (f := []) ⟨rfl, rfl⟩ (Elems.cons (d := kInt) (x := 9) (f := []) ⟨rfl, rfl⟩ (Elems.cons (d := kInt) (x := 0) (f := []) ⟨rfl, rfl⟩ .nil)))) HM.emp) ?_
      rintro v85 w130 HM
      have hS := HM.sufN 4 rfl
      exact ⟨hS, (drw_sub (K123 v85 _ HM) (Sub.of rfl))⟩
    ·refine br_does (l' := (bs 13 45)) rfl (guard_none rfl) rfl rfl (by kernel_rfl) (does_lit (e := 2) (cs := [nI 1, nI 0, nI 1000]) (xs := ([1, 0, 1000] : List Int)) kInt rfl rfl (fun _ => by kernel_rfl) rfl rfl (fun _ _ h => by have h' : _ = [] := h; subst h'; exact (Elems.cons (d := kInt) (x := 1) (f := []) ⟨rfl, rfl⟩ (Elems.cons (d := kInt) (x := 0) (f := []) ⟨rfl, rfl⟩ (Elems.cons (d := kInt) (x := 1000) (f := []) ⟨rfl, rfl⟩ .nil)))) HM.emp) ?_
     rintro v84 w131 HM
     have hS := HM.sufN 4 rfl
     refine ⟨hS, (drw_any [1, 4, 6] (by kernel_rfl) rfl (.cons ?_ (.cons ?_ (.cons ?_ .nil))))⟩
     ·refine br_does (l' := (bs 13 47)) rfl (guard_none rfl) rfl rfl (by kernel_rfl) (does_ex' (ex_load1 rfl rfl U44 rfl ((HM.box_at 2 rfl) 1 _ rfl))) ?_
      rintro _ _ ⟨rfl, rfl⟩
      exact ⟨hS, (drw_sub (K119 v84 _ HM) (Sub.of rfl))⟩
     ·replace HM := HM.fr1 1 rfl
      obtain ⟨F108, hF109, hFn110, hFl111, HMh112, hcl113⟩ := HM.hideN 1 rfl
      refine br_does (l' := (bs 13 61)) rfl (guard_none rfl) rfl rfl (by kernel_rfl) (does_callk rfl callok15 rfl (spec_l1Pick.calls (x0 := (⟨x0.fCode, t11.2⟩ : l1Src)) (x1 := ([1, 0, 1000] : List Int)) (hide_olds _ _) hF109 hFn110 hFl111 (HMh112.rdo hwo hp0_0) (HMh112.own_rd 0 rfl) h80)) ?_
      rintro _ w132 ⟨rfl, hn⟩
      replace HM := hcl113 _ _ _ rfl hn
      have hS := HM.sufN 4 rfl
      refine ⟨hS, (drw_any [1, 6] (by kernel_rfl) rfl (.cons ?_ (.cons ?_ .nil)))⟩
      ·refine br_does (l' := (bs 13 63)) rfl (guard_none rfl) rfl rfl (by kernel_rfl) (does_ex' (ex_load1 rfl rfl U44 rfl ((HM.box_at 2 rfl) 1 _ rfl))) ?_
       rintro _ _ ⟨rfl, rfl⟩
       exact ⟨hS, (drw_sub (K103 v84 _ HM) (Sub.of rfl))⟩
      ·refine br_does (l' := (bs 13 125)) rfl (guard_none rfl) rfl rfl (by kernel_rfl) (does_lit (e := 2) (cs := [nI 1, nI 9, nI 0]) (xs := ([1, 9, 0] : List Int)) kInt rfl rfl (fun _ => by kernel_rfl) rfl rfl (fun _ _ h => by have h' : _ = [] := h; subst h'; exact (Elems.cons (d := kInt) (x := 1) (f := []) ⟨rfl, rfl⟩ (Elems.cons (d := kInt) (x := 9) (f := []) ⟨rfl, rfl⟩ (Elems.cons (d := kInt) (x := 0) (f := []) ⟨rfl, rfl⟩ .nil)))) HM.emp) ?_
       rintro v85 w133 HM
       have hS := HM.sufN 5 rfl
       exact ⟨hS, (drw_sub (K115 v84 v85 _ HM) (Sub.of rfl))⟩
     ·refine br_does (l' := (bs 13 109)) rfl (guard_none rfl) rfl rfl (by kernel_rfl) (does_lit (e := 2) (cs := [nI 1, nI 9, nI 0]) (xs := ([1, 9, 0] : List Int)) kInt rfl rfl (fun _ => by kernel_rfl) rfl rfl (fun _ _ h => by have h' : _ = [] := h; subst h'; exact (Elems.cons (d := kInt) (x := 1) (f := []) ⟨rfl, rfl⟩ (Elems.cons (d := kInt) (x := 9) (f := []) ⟨rfl, rfl⟩ (Elems.cons (d := kInt) (x := 0) (f := []) ⟨rfl, rfl⟩ .nil)))) HM.emp) ?_
      rintro v85 w134 HM
      have hS := HM.sufN 5 rfl
      exact ⟨hS, (drw_sub (K126 v84 v85 _ HM) (Sub.of rfl))⟩
    ·refine br_does (l' := (bs 13 101)) rfl (guard_none rfl) rfl rfl (by kernel_rfl) (does_lit (e := 2) (cs := [nI 1, nI 9, nI 0]) (xs := ([1, 9, 0] : List Int)) kInt rfl rfl (fun _ => by kernel_rfl) rfl rfl (fun _ _ h => by have h' : _ = [] := h; subst h'; exact (Elems.cons (d := kInt) (x := 1) (f := []) ⟨rfl, rfl⟩ (Elems.cons (d := kInt) (x := 9) (f := []) ⟨rfl, rfl⟩ (Elems.cons (d := kInt) (x := 0) (f := []) ⟨rfl, rfl⟩ .nil)))) HM.emp) ?_
     rintro v85 w135 HM
     have hS := HM.sufN 4 rfl
     refine ⟨hS, (drw_any [1, 3] (by kernel_rfl) rfl (.cons ?_ (.cons ?_ .nil)))⟩
     ·refine br_does (l' := (bs 13 103)) rfl (guard_none rfl) rfl rfl (by kernel_rfl) (does_ex' (ex_load1 rfl rfl U44 rfl ((HM.box_at 2 rfl) 1 _ rfl))) ?_
      rintro _ _ ⟨rfl, rfl⟩
      exact ⟨hS, (drw_sub (K123 v85 _ HM) (Sub.of rfl))⟩
     ·refine br_does (l' := (bs 13 109)) rfl (guard_none rfl) rfl rfl (by kernel_rfl) (does_lit (e := 2) (cs := [nI 1, nI 0, nI 1000]) (xs := ([1, 0, 1000] : List Int)) kInt rfl rfl (fun _ => by kernel_rfl) rfl rfl (fun _ _ h => by have h' : _ = [] := h; subst h'; exact (Elems.cons (d := kInt) (x := 1) (f := []) ⟨rfl, rfl⟩ (Elems.cons (d := kInt) (x := 0) (f := []) ⟨rfl, rfl⟩ (Elems.cons (d := kInt) (x := 1000) (f := []) ⟨rfl, rfl⟩ .nil)))) HM.emp) ?_
      rintro v84 w136 HM
      have hS := HM.sufN 5 rfl
      refine ⟨hS, ?_⟩
      replace HM := ((HM.fr1 6 rfl).fr1 6 rfl).fr1 6 rfl
      replace HM := ((HM.fr1 6 rfl).fr1 6 rfl).fr1 5 rfl
      replace HM := HM.fr1 6 rfl
      exact drw_sub (K126 v84 v85 _ HM) (Sub.of rfl)
   ·rintro _ w137 ⟨v83, rfl, HM⟩
    refine at_block (at_then (run_seq (run_region rfl (oy rfl (ldN rfl rfl U46 rfl tsz46 ((HM.box_at 2 rfl).subL 0 2 rfl) rfl) ?_))))
    replace HM := HM.fr1 1 rfl
    refine odS rfl rfl rfl (does_store (vs := [u25, v83]) (cs' := [u25, v83]) rfl rfl rfl rfl tsz46 (Ones.rd (HM.own_rd 3 rfl) (Ones.rd (HM.own_rd 4 rfl) Ones.nil)) rfl rfl HM) ?_
    rintro w138 HM
    refine ops_nil (at_then (run_ret ?_))
    replace HM := ((HM.frd 2 rfl).fr1 1 rfl).fr1 3 rfl
    replace HM := (HM.fr1 3 rfl).fr1 3 rfl
    have hcb0 := HM.box_at 0 rfl
    replace HM := HM.frd 0 rfl
    cases H
    exact at_retN rfl rfl U46 rfl tsz46 rfl hcb0 ⟨_, rfl, _, _, rfl, HM⟩
  ·replace H := cond_f hb79 H
   refine run_seq (run_region rfl (oy rfl (ex_eql rfl rfl rfl) (oM rfl (ops_nil (at_then (run_cond (b := (t11.1 == 2)) rfl (fun hb139 => ?_) (fun hb139 => ?_)))))))
   ·replace H := cond_t hb139 H
    obtain ⟨e140, H⟩ := chk_some H
    obtain ⟨e141, H⟩ := chk_some H
    refine run_region rfl (oz rfl (does_make (x := (⟨#[]⟩ : ByteArray)) kStr rfl rfl rfl U43 tsz9 tby9 tz9 rfl rfl (fun _ => ⟨rfl, rfl⟩) (of_decide_eq_true e140) rfl (leB_le e141) rfl HM) ?_)
    rintro v142 w143 HM
    refine oy rfl (ex_fieldAddr (off' := 0) rfl rfl U46 rfl tsz43 rfl) ?_
    replace HM := HM.fr1 2 rfl
    refine odS rfl rfl rfl (does_store (vs := [v142]) (cs' := [v142, u26]) rfl rfl rfl (rd_cells (HM.own_rd 1 rfl)) tsz43 (Ones.rd (HM.own_rd 1 rfl) Ones.nil) rfl rfl HM) ?_
    rintro w144 HM
    refine ops_nil (at_block (at_then (run_seq (run_region rfl (oy rfl (ldN rfl rfl U46 rfl tsz46 ((HM.box_at 0 rfl).subL 0 2 rfl) rfl) ?_)))))
    replace HM := HM.fr1 5 rfl
    refine odS rfl rfl rfl (does_store (vs := [v142, u26]) (cs' := [v142, u26]) rfl rfl rfl rfl tsz46 (Ones.rd (HM.own_rd 2 rfl) (Ones.rd (HM.own_rd 5 rfl) Ones.nil)) rfl rfl HM) ?_
    rintro w145 HM
    refine ops_nil (at_then (run_ret ?_))
    replace HM := ((HM.frd 1 rfl).frd 3 rfl).fr1 2 rfl
    replace HM := ((HM.fr1 3 rfl).fr1 3 rfl).fr1 3 rfl
    have hcb0 := HM.box_at 0 rfl
    replace HM := HM.frd 0 rfl
    cases H
    exact at_retN rfl rfl U46 rfl tsz46 rfl hcb0 ⟨_, rfl, _, _, rfl, HM⟩
   ·replace H := cond_f hb139 H
    refine run_skip (at_block (at_then (run_seq (run_region rfl (oy rfl (ldN rfl rfl U46 rfl tsz46 ((HM.box_at 1 rfl).subL 0 2 rfl) rfl) ?_)))))
    replace HM := HM.fr1 4 rfl
    refine odS rfl rfl rfl (does_store (vs := [u25, u26]) (cs' := [u25, u26]) rfl rfl rfl rfl tsz46 (Ones.rd (HM.own_rd 3 rfl) (Ones.rd (HM.own_rd 4 rfl) Ones.nil)) rfl rfl HM) ?_
    rintro w146 HM
    refine ops_nil (at_then (run_ret ?_))
    replace HM := ((HM.frd 2 rfl).fr1 1 rfl).fr1 3 rfl
    replace HM := (HM.fr1 3 rfl).fr1 3 rfl
    have hcb0 := HM.box_at 0 rfl
    replace HM := HM.frd 0 rfl
    cases H
    exact at_retN rfl rfl U46 rfl tsz46 rfl hcb0 ⟨_, rfl, _, _, rfl, HM⟩
end Go.Proofs.YtecgbhfgkkpmhacGreat.Zk
