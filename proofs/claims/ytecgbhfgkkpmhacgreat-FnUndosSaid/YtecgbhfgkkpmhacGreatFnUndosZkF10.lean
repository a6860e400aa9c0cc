/- What functions of the program compute, each as a plain function, and that they do. Conditions: as each theorem states them. -/
import Derived.Test.YtecgbhfgkkpmhacGreatFnUndosZkF9
namespace Go.Proofs.YtecgbhfgkkpmhacGreat.Zk
open Go Go.RowKit Go.IntWalk Go.Proofs
set_option linter.unusedVariables false
set_option linter.unusedSimpArgs false
set_option maxRecDepth 100000
set_option maxHeartbeats 4000000
def spec_DrawCheckTx.f (k : Nat) (x0 : List Int) : Option (Ledger × (List Coin) × Tx × Int) := ((spec_l1Source.f k x0).bind fun t10 => ((spec_l5World.f k (⟨x0, t10⟩ : l1Src)).bind fun t11 => (((spec_l1Next.f k (⟨x0, t11.2.2.2⟩ : l1Src) 14).bind fun t12 => (bif (t12.1 == 0) then ((spec_l1Ledger.f k (⟨x0, t12.2⟩ : l1Src)).bind fun t13 => some (t13.2, t13.1.fTexts, t13.1.fSigns, t11.2.2.1.fKind, t11.2.2.1.fMember, t11.2.2.1.fIns, t11.2.2.1.fOuts, t11.2.1)) else (bif (t12.1 == 1) then ((spec_l4Bent.f k (⟨x0, t12.2⟩ : l1Src)).bind fun t14 => some (t14.2, t11.1.fTexts, t11.1.fSigns, t11.2.2.1.fKind, t11.2.2.1.fMember, t11.2.2.1.fIns, t11.2.2.1.fOuts, t14.1)) else (bif (t12.1 == 2) then ((spec_l3Bent.f k (⟨x0, t12.2⟩ : l1Src)).bind fun t15 => some (t15.2, t11.1.fTexts, t11.1.fSigns, t15.1.fKind, t15.1.fMember, t15.1.fIns, t15.1.fOuts, t11.2.1)) else some (t12.2, t11.1.fTexts, t11.1.fSigns, t11.2.2.1.fKind, t11.2.2.1.fMember, t11.2.2.1.fIns, t11.2.2.1.fOuts, t11.2.1))))).bind (cur8 (fun a16 a17 a18 a19 a20 a21 a22 a23 => ((spec_l1Next.f k (⟨x0, a16⟩ : l1Src) 9).bind fun t24 => ((spec_l1Next.f k (⟨x0, t24.2⟩ : l1Src) 9).bind fun t25 => ((spec_l1Pick.f k (⟨x0, t25.2⟩ : l1Src) ([wrap64 (9 + t24.1), 9, t25.1, 999, 1000, (-1)] : List Int)).bind fun t26 => some ((⟨a17, a18⟩ : Ledger), a23, (⟨a19, a20, a21, a22⟩ : Tx), t26.1)))))))))
theorem spec_DrawCheckTx.calls {k : Nat} {x0 : List Int} {p0 : Value} {w : World} (hp0 : RdS kU8 w p0 x0) {r : Ledger × (List Coin) × Tx × Int} (H : spec_DrawCheckTx.f k x0 = some r) :
  Calls Tryz.prog 14 ([p0] : List Value).toArray w (fun e w_ => ∃ v, e = .returned v ∧ ∃ u0 : Value, ∃ u1 : Value, ∃ u2 : Value, ∃ u3 : Value, ∃ u4 : Value, v = (.tuple #[.agg #[u0, u1], u2, .agg #[nI r.2.2.1.fKind, nI r.2.2.1.fMember, u3, u4], nI r.2.2.2]) ∧ Mem w [] w_ [own kStr 9 u0 r.1.fTexts, own kSign 119 u1 r.1.fSigns, fro kCoin u2 r.2.1, own kRef 38 u3 r.2.2.1.fIns, own kOut 68 u4 r.2.2.1.fOuts]) := by
 have HM := Mem.start w
 refine calls_run (N := 43) Tryz.func14 rfl rfl rfl rfl ?_
 unfold spec_DrawCheckTx.f at H
 refine run_seq (run_region rfl (oz rfl (does_alloc (cs := [.slice none 0 0, .slice none 0 0]) rfl tz46 rfl HM) ?_))
 rintro _ w27 ⟨b28, rfl, HM⟩
 refine oM rfl (oz rfl (does_alloc (cs := [nI 0, nI 0, .slice none 0 0, .slice none 0 0]) rfl tz28 rfl HM) ?_)
 rintro _ w29 ⟨b30, rfl, HM⟩
 refine oM rfl (ops_nil (at_then (run_seq ?_)))
 obtain ⟨t10, h31, H⟩ := bind_some H
 refine run_region rfl (oM rfl (oz rfl (does_callk rfl callok13 rfl (spec_l1Source.calls (x0 := x0) (HM.rd hp0) h31)) ?_))
 rintro _ w32 ⟨b33, rfl, hn⟩
 replace HM := HM.callN hn rfl
 refine oM rfl (ops_nil (at_then (run_seq ?_)))
 obtain ⟨t11, h34, H⟩ := bind_some H
 refine run_region rfl (oM rfl ?_)
 obtain ⟨F35, hF36, hFn37, hFl38, HMh39, hcl40⟩ := HM.hideN 1 rfl
 refine oz rfl (does_callk rfl callok34 rfl (spec_l5World.calls (x0 := (⟨x0, t10⟩ : l1Src)) (hide_olds _ _) hF36 hFn37 hFl38 (HMh39.rd hp0) h34)) ?_
 rintro _ w41 ⟨u42, u43, u44, u45, u46, rfl, hn⟩
 replace HM := hcl40 _ _ _ rfl hn
 refine oM rfl (oy rfl (ex_extract rfl rfl rfl) (oy rfl (ex_extract rfl rfl rfl) (oy rfl (ex_extract rfl rfl rfl) (oz rfl (does_alloc (cs := [.slice none 0 0, .slice none 0 0]) rfl tz46 rfl HM) ?_))))
 rintro _ w47 ⟨b48, rfl, HM⟩
 refine oz rfl (does_alloc (cs := [nI 0, nI 0, .slice none 0 0, .slice none 0 0]) rfl tz28 rfl HM) ?_
 rintro _ w49 ⟨b50, rfl, HM⟩
 replace HM := HM.fr1 1 rfl
 refine odS rfl rfl rfl (does_store (vs := [u42, u43]) (cs' := [u42, u43]) rfl rfl rfl rfl tsz46 (Ones.rd (HM.own_rd 2 rfl) (Ones.rd (HM.own_rd 3 rfl) Ones.nil)) rfl rfl HM) ?_
 rintro w51 HM
 refine oM rfl ?_
 replace HM := HM.fr1 1 rfl
 refine odS rfl rfl rfl (does_store (vs := [nI t11.2.2.1.fKind, nI t11.2.2.1.fMember, u45, u46]) (cs' := [nI t11.2.2.1.fKind, nI t11.2.2.1.fMember, u45, u46]) rfl rfl rfl rfl tsz28 (Ones.int (Ones.int (Ones.rd (HM.own_rd 5 rfl) (Ones.rd (HM.own_rd 6 rfl) Ones.nil)))) rfl rfl HM) ?_
 rintro w52 HM
 refine ops_nil (at_then ?_)
 obtain ⟨o53, ho54, H⟩ := bind_some H
 refine run_mid (fun ρ_ w_ => ∃ a16 : Int, ∃ v55 : Value, ∃ a17 : List ByteArray, ∃ v56 : Value, ∃ a18 : List Sign, ∃ a19 : Int, ∃ a20 : Int, ∃ v57 : Value, ∃ a21 : List Ref, ∃ v58 : Value, ∃ a22 : List Out, ∃ v59 : Value, ∃ a23 : List Coin, (a16, a17, a18, a19, a20, a21, a22, a23) = o53 ∧ ρ_ = [(2, pA b28 0), (4, pA b30 0), (6, pA b33 0), (7, pA b48 0), (9, pA b50 0), (8, v59)] ∧ Mem w [] w_ [box b28 46 [.slice none 0 0, .slice none 0 0], box b30 28 [nI 0, nI 0, .slice none 0 0, .slice none 0 0], box b33 78 [p0, nI a16], box b48 46 [v55, v56], own kStr 9 v55 a17, own kSign 119 v56 a18, box b50 28 [nI a19, nI a20, v57, v58], own kRef 38 v57 a21, own kOut 68 v58 a22, fro kCoin v59 a23]) ?_ ?_
 ·clear H
  refine run_seq ?_
  obtain ⟨t12, h60, ho54⟩ := bind_some ho54
  refine run_region rfl (oM rfl ?_)
  replace HM := HM.fr1 7 rfl
  obtain ⟨F61, hF62, hFn63, hFl64, HMh65, hcl66⟩ := HM.hideN 1 rfl
  refine oz rfl (does_callk rfl callok16 rfl (spec_l1Next.calls (x0 := (⟨x0, t11.2.2.2⟩ : l1Src)) (x1 := 14) (hide_olds _ _) hF62 hFn63 hFl64 (HMh65.rd hp0) h60)) ?_
  rintro _ w67 ⟨rfl, hn⟩
  replace HM := hcl66 _ _ _ rfl hn
  refine ops_nil (at_then (run_block (run_seq (run_region rfl (oy rfl (ex_eql rfl rfl rfl) (oM rfl (ops_nil (at_then (run_cond (b := (t12.1 == 0)) rfl (fun hb68 => ?_) (fun hb68 => ?_))))))))))
  ·replace ho54 := cond_t hb68 ho54
   obtain ⟨t13, h69, ho54⟩ := bind_some ho54
   refine run_region rfl (oM rfl ?_)
   obtain ⟨F70, hF71, hFn72, hFl73, HMh74, hcl75⟩ := HM.hideN 1 rfl
   refine oz rfl (does_callk rfl callok35 rfl (spec_l1Ledger.calls (x0 := (⟨x0, t12.2⟩ : l1Src)) (hide_olds _ _) hF71 hFn72 hFl73 (HMh74.rd hp0) h69)) ?_
   rintro _ w76 ⟨u77, u78, rfl, hn⟩
   replace HM := hcl75 _ _ _ rfl hn
   replace HM := HM.fr1 4 rfl
   refine odS rfl rfl rfl (does_store (vs := [u77, u78]) (cs' := [u77, u78]) rfl rfl rfl rfl tsz46 (Ones.rd (HM.own_rd 1 rfl) (Ones.rd (HM.own_rd 2 rfl) Ones.nil)) rfl rfl HM) ?_
   rintro w79 HM
   refine ops_nil (at_block ?_)
   replace HM := HM.fr1 7 rfl
   replace HM := ((HM.fro).frd 6 rfl).frd 6 rfl
   replace HM := ((HM.fr1 7 rfl).fr1 7 rfl).fr1 7 rfl
   replace HM := ((HM.fr1 6 rfl).fr1 6 rfl).fr1 6 rfl
   replace HM := ((HM.fr1 7 rfl).fr1 8 rfl).fr1 9 rfl
   exact at_mid ⟨_, _, _, _, _, _, _, _, _, _, _, _, _, (sj ho54), rfl, HM⟩ (Sub.of rfl)
  ·replace ho54 := cond_f hb68 ho54
   refine run_seq (run_region rfl (oy rfl (ex_eql rfl rfl rfl) (oM rfl (ops_nil (at_then (run_cond (b := (t12.1 == 1)) rfl (fun hb80 => ?_) (fun hb80 => ?_)))))))
   ·replace ho54 := cond_t hb80 ho54
    obtain ⟨t14, h81, ho54⟩ := bind_some ho54
    refine run_region rfl (oM rfl ?_)
    obtain ⟨F82, hF83, hFn84, hFl85, HMh86, hcl87⟩ := HM.hideN 1 rfl
    refine oz rfl (does_callk rfl callok36 rfl (spec_l4Bent.calls (x0 := (⟨x0, t12.2⟩ : l1Src)) (hide_olds _ _) hF83 hFn84 hFl85 (HMh86.rd hp0) h81)) ?_
    rintro u88 w89 ⟨_, rfl, hn⟩
    replace HM := hcl87 _ _ _ rfl hn
    refine oM rfl (ops_nil (at_block ?_))
    replace HM := ((HM.frd 6 rfl).fr1 7 rfl).fr1 7 rfl
    replace HM := ((HM.fr1 4 rfl).fr1 7 rfl).fr1 7 rfl
    replace HM := ((HM.fr1 7 rfl).fr1 7 rfl).fr1 8 rfl
    replace HM := HM.fr1 9 rfl
    exact at_mid ⟨_, _, _, _, _, _, _, _, _, _, _, _, _, (sj ho54), rfl, HM⟩ (Sub.of rfl)
   ·replace ho54 := cond_f hb80 ho54
    refine run_seq (run_region rfl (oy rfl (ex_eql rfl rfl rfl) (oM rfl (ops_nil (at_then (run_cond (b := (t12.1 == 2)) rfl (fun hb90 => ?_) (fun hb90 => ?_)))))))
    ·replace ho54 := cond_t hb90 ho54
     obtain ⟨t15, h91, ho54⟩ := bind_some ho54
     refine run_region rfl (oM rfl ?_)
     obtain ⟨F92, hF93, hFn94, hFl95, HMh96, hcl97⟩ := HM.hideN 1 rfl
     refine oz rfl (does_callk rfl callok37 rfl (spec_l3Bent.calls (x0 := (⟨x0, t12.2⟩ : l1Src)) (hide_olds _ _) hF93 hFn94 hFl95 (HMh96.rd hp0) h91)) ?_
     rintro _ w98 ⟨u99, u100, rfl, hn⟩
     replace HM := hcl97 _ _ _ rfl hn
     replace HM := HM.fr1 3 rfl
     refine odS rfl rfl rfl (does_store (vs := [nI t15.1.fKind, nI t15.1.fMember, u99, u100]) (cs' := [nI t15.1.fKind, nI t15.1.fMember, u99, u100]) rfl rfl rfl rfl tsz28 (Ones.int (Ones.int (Ones.rd (HM.own_rd 1 rfl) (Ones.rd (HM.own_rd 2 rfl) Ones.nil)))) rfl rfl HM) ?_
     rintro w101 HM
     refine ops_nil (at_block ?_)
     replace HM := HM.fr1 7 rfl
     replace HM := ((HM.fro).frd 8 rfl).frd 8 rfl
     replace HM := ((HM.fr1 3 rfl).fr1 3 rfl).fr1 3 rfl
     replace HM := ((HM.fr1 7 rfl).fr1 7 rfl).fr1 7 rfl
     replace HM := ((HM.fr1 7 rfl).fr1 8 rfl).fr1 9 rfl
     exact at_mid ⟨_, _, _, _, _, _, _, _, _, _, _, _, _, (sj ho54), rfl, HM⟩ (Sub.of rfl)
    ·replace ho54 := cond_f hb90 ho54
     refine run_skip (at_block ?_)
     replace HM := HM.fr1 5 rfl
     replace HM := ((HM.fro).fr1 7 rfl).fr1 7 rfl
     replace HM := ((HM.fr1 4 rfl).fr1 7 rfl).fr1 7 rfl
     replace HM := ((HM.fr1 7 rfl).fr1 7 rfl).fr1 8 rfl
     replace HM := HM.fr1 9 rfl
     exact at_mid ⟨_, _, _, _, _, _, _, _, _, _, _, _, _, (sj ho54), rfl, HM⟩ (Sub.of rfl)
 ·rintro _ w102 ⟨a16, v55, a17, v56, a18, a19, a20, v57, a21, v58, a22, v59, a23, rfl, rfl, HM⟩
  replace H := cur8_mk H
  refine run_seq ?_
  obtain ⟨t24, h103, H⟩ := bind_some H
  obtain ⟨t25, h104, H⟩ := bind_some H
  obtain ⟨t26, h105, H⟩ := bind_some H
  replace HM := ((HM.fr1 2 rfl).fr1 2 rfl).fr1 2 rfl
  refine run_drawf (fun w_ => Mem w [] w_ [box b48 46 [v55, v56], own kStr 9 v55 a17, own kSign 119 v56 a18, box b50 28 [nI a19, nI a20, v57, v58], own kRef 38 v57 a21, own kOut 68 v58 a22, fro kCoin v59 a23]) [(0, true), (1, true), (2, true), (3, true), (4, true), (7, true), (5, false), (6, true), (8, false), (9, false), (10, false), (11, false), (12, true), (13, false), (14, true)] mixed rfl rfl (by kernel_rfl) ?_
  replace HM := HM.grow (fr_drew _)
  have hS := HM.sufN 3 rfl
  refine drwp_take rfl (guard_none rfl) rfl rfl (fun w_ hS_ => (ldN rfl rfl U46 rfl tsz46 ((hS_.box_at 0 rfl).subL 0 2 rfl) rfl)) hS (dp rfl rfl rfl rfl (ex_move rfl rfl) hS (drwp_take rfl (guard_none rfl) rfl rfl (fun w_ hS_ => (ldN rfl rfl U28 rfl tsz28 ((hS_.box_at 3 rfl).subL 0 4 rfl) rfl)) hS (dp rfl rfl rfl rfl (ex_move rfl rfl) hS (dp rfl rfl rfl rfl (ex_move rfl rfl) hS (dp rfl rfl rfl rfl (ex_move rfl rfl) hS ?_)))))
  replace HM := HM.fr1 2 rfl
  obtain ⟨F106, hF107, hFn108, hFl109, HMh110, hcl111⟩ := HM.hideN 1 rfl
  refine drwp_one rfl (guard_none rfl) rfl rfl (does_callk rfl callok16 rfl (spec_l1Next.calls (x0 := (⟨x0, a16⟩ : l1Src)) (x1 := 9) (hide_olds _ _) hF107 hFn108 hFl109 (HMh110.rd hp0) h103)) ?_
  rintro _ w112 ⟨rfl, hn⟩
  replace HM := hcl111 _ _ _ rfl hn
  have hS := HM.sufN 3 rfl
  refine ⟨hS, (dp rfl rfl rfl rfl (ex_add rfl rfl rfl) hS ?_)⟩
  obtain ⟨F113, hF114, hFn115, hFl116, HMh117, hcl118⟩ := HM.hideN 1 rfl
  refine drwp_one rfl (guard_none rfl) rfl rfl (does_callk rfl callok16 rfl (spec_l1Next.calls (x0 := (⟨x0, t24.2⟩ : l1Src)) (x1 := 9) (hide_olds _ _) hF114 hFn115 hFl116 (HMh117.rd hp0) h104)) ?_
  rintro _ w119 ⟨rfl, hn⟩
  replace HM := hcl118 _ _ _ rfl hn
  have hS := HM.sufN 3 rfl
  refine ⟨hS, (drwp_one rfl (guard_none rfl) rfl rfl (does_lit (e := 2) (cs := [nI (wrap64 (9 + t24.1)), nI 9, nI t25.1, nI 999, nI 1000, nI (-1)]) (xs := ([wrap64 (9 + t24.1), 9, t25.1, 999, 1000, (-1)] : List Int)) kInt rfl rfl (fun _ => by kernel_rfl) rfl rfl (fun _ _ h => by have h' : _ = [] := h; subst h'; exact (Elems.cons (d := kInt) (x := wrap64 (9 + t24.1)) (f := []) ⟨rfl, rfl⟩ (Elems.cons (d := kInt) (x := 9) (f := []) ⟨rfl, rfl⟩ (Elems.cons (d := kInt) (x := t25.1) (f := []) ⟨rfl, rfl⟩ (Elems.cons (d := kInt) (x := 999) (f := []) ⟨rfl, rfl⟩ (Elems.cons (d := kInt) (x := 1000) (f := []) ⟨rfl, rfl⟩ (Elems.cons (d := kInt) (x := (-1)) (f := []) ⟨rfl, rfl⟩ .nil))))))) HM.emp) ?_)⟩
  rintro v120 w121 HM
  have hS := HM.sufN 4 rfl
  refine ⟨hS, ?_⟩
  replace HM := HM.fr1 1 rfl
  obtain ⟨F122, hF123, hFn124, hFl125, HMh126, hcl127⟩ := HM.hideN 1 rfl
  refine drwp_one rfl (guard_none rfl) rfl rfl (does_callk rfl callok15 rfl (spec_l1Pick.calls (x0 := (⟨x0, t25.2⟩ : l1Src)) (x1 := ([wrap64 (9 + t24.1), 9, t25.1, 999, 1000, (-1)] : List Int)) (hide_olds _ _) hF123 hFn124 hFl125 (HMh126.rd hp0) (HMh126.own_rd 0 rfl) h105)) ?_
  rintro _ w128 ⟨rfl, hn⟩
  replace HM := hcl127 _ _ _ rfl hn
  have hS := HM.sufN 4 rfl
  refine ⟨hS, ?_⟩
  replace HM := HM.fr1 2 rfl
  refine drwp_oneS rfl (guard_none rfl) rfl (does_store (vs := [v55, v56]) (cs' := [v55, v56]) rfl rfl rfl rfl tsz46 (Ones.rd (HM.own_rd 5 rfl) (Ones.rd (HM.own_rd 6 rfl) Ones.nil)) rfl rfl HM) ?_
  rintro w129 HM
  have hS := HM.sufN 4 rfl
  refine ⟨hS, (dp rfl rfl rfl rfl (ex_assign rfl rfl) hS ?_)⟩
  replace HM := HM.fr1 3 rfl
  refine drwp_oneS rfl (guard_none rfl) rfl (does_store (vs := [nI a19, nI a20, v57, v58]) (cs' := [nI a19, nI a20, v57, v58]) rfl rfl rfl rfl tsz28 (Ones.int (Ones.int (Ones.rd (HM.own_rd 8 rfl) (Ones.rd (HM.own_rd 9 rfl) Ones.nil)))) rfl rfl HM) ?_
  rintro w130 HM
  have hS := HM.sufN 4 rfl
  refine ⟨hS, (dp rfl rfl rfl rfl (ex_assign rfl rfl) hS (drwp_done (at_then (run_ret ?_))))⟩
  replace HM := ((HM.frd 2 rfl).frd 2 rfl).frd 2 rfl
  replace HM := ((HM.frd 4 rfl).fr1 5 rfl).fr1 5 rfl
  replace HM := ((HM.fr1 6 rfl).fr1 6 rfl).fr1 6 rfl
  replace HM := (HM.fr1 5 rfl).fr1 6 rfl
  have hcb0 := HM.box_at 0 rfl
  have hcb1 := HM.box_at 1 rfl
  replace HM := (HM.frd 0 rfl).frd 0 rfl
  cases H
  exact at_rets rfl (Rs.cell rfl U46 rfl tsz46 rfl hcb0 (Rs.tmp rfl (Rs.cell rfl U28 rfl tsz28 rfl hcb1 (Rs.tmp rfl Rs.nil)))) rfl ⟨_, rfl, _, _, _, _, _, rfl, HM⟩

def spec_DrawSpendTx.f (k : Nat) (x0 : List Int) : Option ((List Coin) × Tx × Int × Int) := (chk (leB ((([3] : List Int).length + x0.length) * 1) 140737488355328) ((spec_l1Source.f k (([3] : List Int) ++ x0)).bind fun t10 => ((spec_DrawCheckTx.f k x0).bind fun t11 => ((spec_l1Next.f k (⟨([3] : List Int) ++ x0, t10⟩ : l1Src) 9).bind fun t12 => ((spec_l1Next.f k (⟨([3] : List Int) ++ x0, t12.2⟩ : l1Src) 9).bind fun t13 => ((spec_l1Pick.f k (⟨([3] : List Int) ++ x0, t13.2⟩ : l1Src) ([wrap64 (20 + t12.1), wrap64 (20 + t13.1), 1, 61] : List Int)).bind fun t14 => some (t11.2.1, (⟨t11.2.2.1.fKind, t11.2.2.1.fMember, t11.2.2.1.fIns, t11.2.2.1.fOuts⟩ : Tx), t14.1, t11.2.2.2)))))))
theorem spec_DrawSpendTx.calls {k : Nat} {x0 : List Int} {p0 : Value} {w : World} (hp0 : RdS kU8 w p0 x0) {r : (List Coin) × Tx × Int × Int} (H : spec_DrawSpendTx.f k x0 = some r) :
  Calls Tryz.prog 5 ([p0] : List Value).toArray w (fun e w_ => ∃ v, e = .returned v ∧ ∃ u0 : Value, ∃ u1 : Value, ∃ u2 : Value, v = (.tuple #[u0, .agg #[nI r.2.1.fKind, nI r.2.1.fMember, u1, u2], nI r.2.2.1, nI r.2.2.2]) ∧ Mem w [] w_ [fro kCoin u0 r.1, own kRef 38 u1 r.2.1.fIns, own kOut 68 u2 r.2.1.fOuts]) := by
 have HM := Mem.start w
 refine calls_run (N := 34) Tryz.func5 rfl rfl rfl rfl ?_
 unfold spec_DrawSpendTx.f at H
 refine run_seq (run_region rfl (oM rfl (oz rfl (does_alloc (cs := [nI 0, nI 0, .slice none 0 0, .slice none 0 0]) rfl tz28 rfl HM) ?_)))
 rintro _ w15 ⟨b16, rfl, HM⟩
 refine oM rfl (oM rfl (ops_nil (at_then (run_seq ?_))))
 obtain ⟨e17, H⟩ := chk_some H
 obtain ⟨t10, h18, H⟩ := bind_some H
 refine run_region rfl (oz rfl (does_lit (e := 5) (cs := [.int .u8 3]) (xs := ([3] : List Int)) kU8 rfl rfl (fun _ => by kernel_rfl) rfl rfl (fun _ _ h => by have h' : _ = [] := h; subst h'; exact (Elems.cons (d := kU8) (x := 3) (f := []) ⟨rfl, rfl⟩ .nil)) HM.emp) ?_)
 rintro v19 w20 HM
 refine oM rfl (oz rfl (does_appendR kU8 flat_plain rfl rfl rfl U22 tsz5 rfl tby5 tz5 rfl rfl (leB_le e17) (HM.rd hp0) HM) ?_)
 rintro v21 w22 HM
 refine oz rfl (does_callk rfl callok13 rfl (spec_l1Source.calls (x0 := ([3] : List Int) ++ x0) (HM.own_rd 0 rfl) h18)) ?_
 rintro _ w23 ⟨b24, rfl, hn⟩
 replace HM := HM.callN hn rfl
 refine oM rfl (ops_nil ?_)
 replace HM := (HM.fr1 2 rfl).fr1 1 rfl
 obtain ⟨F25, hF26, hFn27, hFl28, HMh29, hcl30⟩ := HM.hideN 2 rfl
 replace hp0 := (HMh29.rd hp0)
 have hz13 := (HMh29.own_rd 0 rfl)
 have hwo := hide_olds w23 F25
 generalize hideB w23 F25 = wz9370 at *
 have HM := Mem.startX hF26 hFn27 hFl28
 refine at_then (run_seq ?_)
 obtain ⟨t11, h31, H⟩ := bind_some H
 refine run_region rfl (oM rfl (oz rfl (does_callk rfl callok14 rfl (spec_DrawCheckTx.calls (x0 := x0) (HM.rdo hwo hp0) h31)) ?_))
 rintro _ w32 ⟨u33, u34, u35, u36, u37, rfl, hn⟩
 replace HM := HM.callN hn rfl
 refine oM rfl (oy rfl (ex_extract rfl rfl rfl) (oy rfl (ex_extract rfl rfl rfl) (oy rfl (ex_extract rfl rfl rfl) (oy rfl (ex_extract rfl rfl rfl) (oz rfl (does_alloc (cs := [.slice none 0 0, .slice none 0 0]) rfl tz46 rfl HM) ?_)))))
 rintro _ w38 ⟨b39, rfl, HM⟩
 refine oz rfl (does_alloc (cs := [nI 0, nI 0, .slice none 0 0, .slice none 0 0]) rfl tz28 rfl HM) ?_
 rintro _ w40 ⟨b41, rfl, HM⟩
 replace HM := HM.fr1 1 rfl
 refine odS rfl rfl rfl (does_store (vs := [u33, u34]) (cs' := [u33, u34]) rfl rfl rfl rfl tsz46 (Ones.rd (HM.own_rd 2 rfl) (Ones.rd (HM.own_rd 3 rfl) Ones.nil)) rfl rfl HM) ?_
 rintro w42 HM
 refine oM rfl ?_
 replace HM := HM.fr1 1 rfl
 refine odS rfl rfl rfl (does_store (vs := [nI t11.2.2.1.fKind, nI t11.2.2.1.fMember, u36, u37]) (cs' := [nI t11.2.2.1.fKind, nI t11.2.2.1.fMember, u36, u37]) rfl rfl rfl rfl tsz28 (Ones.int (Ones.int (Ones.rd (HM.own_rd 5 rfl) (Ones.rd (HM.own_rd 6 rfl) Ones.nil)))) rfl rfl HM) ?_
 rintro w43 HM
 refine oM rfl (ops_nil (at_then (run_seq ?_)))
 obtain ⟨t12, h44, H⟩ := bind_some H
 obtain ⟨t13, h45, H⟩ := bind_some H
 obtain ⟨t14, h46, H⟩ := bind_some H
 replace HM := (HM.fr1 8 rfl).fr1 8 rfl
 refine run_drawf (fun w_ => Mem w23 F25 w_ [box b41 28 [nI t11.2.2.1.fKind, nI t11.2.2.1.fMember, u36, u37], box b39 46 [u33, u34], own kStr 9 u33 t11.1.fTexts, own kSign 119 u34 t11.1.fSigns, fro kCoin u35 t11.2.1, own kRef 38 u36 t11.2.2.1.fIns, own kOut 68 u37 t11.2.2.1.fOuts]) [(0, true), (1, true), (2, true), (3, true), (6, true), (11, true), (4, false), (5, true), (7, false), (8, true), (9, false), (10, false), (12, true), (13, false), (14, true), (15, true)] mixed rfl rfl (by kernel_rfl) ?_
 replace HM := HM.grow (fr_drew _)
 have hS := HM.sufN 2 rfl
 refine dp rfl rfl rfl rfl (ex_move rfl rfl) hS (drwp_take rfl (guard_none rfl) rfl rfl (fun w_ hS_ => (ldN rfl rfl U28 rfl tsz28 ((hS_.box_at 0 rfl).subL 0 4 rfl) rfl)) hS (dp rfl rfl rfl rfl (ex_move rfl rfl) hS (dp rfl rfl rfl rfl (ex_move rfl rfl) hS (dp rfl rfl rfl rfl (ex_move rfl rfl) hS (dp rfl rfl rfl rfl (ex_move rfl rfl) hS ?_)))))
 obtain ⟨F47, hF48, hFn49, hFl50, HMh51, hcl52⟩ := HM.hideN 1 rfl
 refine drwp_one rfl (guard_none rfl) rfl rfl (does_callk rfl callok16 rfl (spec_l1Next.calls (x0 := (⟨([3] : List Int) ++ x0, t10⟩ : l1Src)) (x1 := 9) (hide_olds _ _) hF48 hFn49 hFl50 (HMh51.rdo hwo hz13) h44)) ?_
 rintro _ w53 ⟨rfl, hn⟩
 replace HM := hcl52 _ _ _ rfl hn
 have hS := HM.sufN 2 rfl
 refine ⟨hS, (dp rfl rfl rfl rfl (ex_add rfl rfl rfl) hS ?_)⟩
 obtain ⟨F54, hF55, hFn56, hFl57, HMh58, hcl59⟩ := HM.hideN 1 rfl
 refine drwp_one rfl (guard_none rfl) rfl rfl (does_callk rfl callok16 rfl (spec_l1Next.calls (x0 := (⟨([3] : List Int) ++ x0, t12.2⟩ : l1Src)) (x1 := 9) (hide_olds _ _) hF55 hFn56 hFl57 (HMh58.rdo hwo hz13) h45)) ?_
 rintro _ w60 ⟨rfl, hn⟩
 replace HM := hcl59 _ _ _ rfl hn
 have hS := HM.sufN 2 rfl
 refine ⟨hS, (dp rfl rfl rfl rfl (ex_add rfl rfl rfl) hS (drwp_one rfl (guard_none rfl) rfl rfl (does_lit (e := 2) (cs := [nI (wrap64 (20 + t12.1)), nI (wrap64 (20 + t13.1)), nI 1, nI 61]) (xs := ([wrap64 (20 + t12.1), wrap64 (20 + t13.1), 1, 61] : List Int)) kInt rfl rfl (fun _ => by kernel_rfl) rfl rfl (fun _ _ h => by have h' : _ = [] := h; subst h'; exact (Elems.cons (d := kInt) (x := wrap64 (20 + t12.1)) (f := []) ⟨rfl, rfl⟩ (Elems.cons (d := kInt) (x := wrap64 (20 + t13.1)) (f := []) ⟨rfl, rfl⟩ (Elems.cons (d := kInt) (x := 1) (f := []) ⟨rfl, rfl⟩ (Elems.cons (d := kInt) (x := 61) (f := []) ⟨rfl, rfl⟩ .nil))))) HM.emp) ?_))⟩
 rintro v61 w62 HM
 have hS := HM.sufN 3 rfl
 refine ⟨hS, ?_⟩
 replace HM := HM.fr1 1 rfl
 obtain ⟨F63, hF64, hFn65, hFl66, HMh67, hcl68⟩ := HM.hideN 1 rfl
 refine drwp_one rfl (guard_none rfl) rfl rfl (does_callk rfl callok15 rfl (spec_l1Pick.calls (x0 := (⟨([3] : List Int) ++ x0, t13.2⟩ : l1Src)) (x1 := ([wrap64 (20 + t12.1), wrap64 (20 + t13.1), 1, 61] : List Int)) (hide_olds _ _) hF64 hFn65 hFl66 (HMh67.rdo hwo hz13) (HMh67.own_rd 0 rfl) h46)) ?_
 rintro _ w69 ⟨rfl, hn⟩
 replace HM := hcl68 _ _ _ rfl hn
 have hS := HM.sufN 3 rfl
 refine ⟨hS, (dp rfl rfl rfl rfl (ex_assign rfl rfl) hS ?_)⟩
 replace HM := HM.fr1 2 rfl
 refine drwp_oneS rfl (guard_none rfl) rfl (does_store (vs := [nI t11.2.2.1.fKind, nI t11.2.2.1.fMember, u36, u37]) (cs' := [nI t11.2.2.1.fKind, nI t11.2.2.1.fMember, u36, u37]) rfl rfl rfl rfl tsz28 (Ones.int (Ones.int (Ones.rd (HM.own_rd 8 rfl) (Ones.rd (HM.own_rd 9 rfl) Ones.nil)))) rfl rfl HM) ?_
 rintro w70 HM
 have hS := HM.sufN 3 rfl
 refine ⟨hS, (dp rfl rfl rfl rfl (ex_assign rfl rfl) hS (dp rfl rfl rfl rfl (ex_assign rfl rfl) hS (drwp_done (at_then (run_ret ?_)))))⟩
 replace HM := hcl30 _ _ _ rfl HM
 replace HM := ((HM.frd 1 rfl).frd 1 rfl).frd 1 rfl
 replace HM := ((HM.frd 1 rfl).frd 1 rfl).frd 1 rfl
 replace HM := HM.frd 4 rfl
 have hcb0 := HM.box_at 0 rfl
 replace HM := HM.frd 0 rfl
 cases H
 exact at_rets rfl (Rs.tmp rfl (Rs.cell rfl U28 rfl tsz28 rfl hcb0 (Rs.tmp rfl (Rs.tmp rfl Rs.nil)))) rfl ⟨_, rfl, _, _, _, rfl, HM⟩

def impl_within.f (k : Nat) (x0 : Int) (x1 : Int) (x2 : Int) : Option Bool := some ((decide (x1 ≤ x0)) && (decide (x0 ≤ x2)))
theorem impl_within.calls {k : Nat} {x0 : Int} {x1 : Int} {x2 : Int}  {w : World}  {r : Bool} (H : impl_within.f k x0 x1 x2 = some r) :
  Calls Tryz.prog 31 ([nI x0, nI x1, nI x2] : List Value).toArray w (fun e w_ => ∃ v, e = .returned v ∧ v = (.bool r) ∧ Mem w [] w_ []) := by
 have HM := Mem.start w
 refine calls_run (N := 15) Tryz.func31 rfl rfl rfl rfl ?_
 unfold impl_within.f at H
 refine run_seq (run_region rfl (oM rfl (ops_nil (at_then (run_seq ?_)))))
 refine run_meet (fun ρ_ w_ => ρ_ = [(6, .bool ((decide (x1 ≤ x0)) && (decide (x0 ≤ x2))))] ∧ Mem w [] w_ []) ?_ ?_
 ·refine run_region rfl (oM rfl (oM rfl (oy rfl (ex_geq rfl rfl rfl) (oM rfl ?_))))
  refine bool_cases (decide (x1 ≤ x0)) (fun hg10 => ?_) (fun hg10 => ?_)
  ·exact gn rfl hg10 (ex_move rfl rfl) (gn rfl hg10 (ex_move rfl rfl) (gn rfl hg10 (ex_leq rfl rfl rfl) (ops_ex (v := .bool ((decide (x1 ≤ x0)) && (decide (x0 ≤ x2)))) rfl (guard_none rfl) rfl rfl (ex_pand_t rfl rfl hg10 rfl) (oM rfl (ops_nil (at_meet _ ⟨rfl, HM⟩ (Sub.of rfl)))))))
  ·refine gf rfl hg10 (gf rfl hg10 (gf rfl hg10 ?_))
   have hg11 : ((decide (x1 ≤ x0)) && (decide (x0 ≤ x2))) = false := by simp only [hg10, Bool.and_true, Bool.true_and, Bool.and_false, Bool.false_and, Bool.or_true, Bool.true_or, Bool.or_false, Bool.false_or, Bool.not_true, Bool.not_false, Bool.not_not]
   exact ops_ex (v := .bool ((decide (x1 ≤ x0)) && (decide (x0 ≤ x2)))) rfl (guard_none rfl) rfl rfl (ex_pand_f rfl rfl hg10) (oM rfl (ops_nil (at_meet _ ⟨rfl, HM⟩ (Sub.of rfl))))
 ·rintro _ w12 ⟨rfl, HM⟩
  refine at_then (run_ret ?_)
  cases H
  exact at_ret1 rfl rfl ⟨_, rfl, rfl, HM⟩

def impl_isId.f (k : Nat) (x0 : Int) : Option Bool := ((impl_within.f k x0 1 60).bind fun t10 => some t10)
theorem impl_isId.calls {k : Nat} {x0 : Int}  {w : World}  {r : Bool} (H : impl_isId.f k x0 = some r) :
  Calls Tryz.prog 54 ([nI x0] : List Value).toArray w (fun e w_ => ∃ v, e = .returned v ∧ v = (.bool r) ∧ Mem w [] w_ []) := by
 have HM := Mem.start w
 refine calls_run (N := 5) Tryz.func54 rfl rfl rfl rfl ?_
 unfold impl_isId.f at H
 refine run_seq (run_region rfl (oM rfl (ops_nil (at_then (run_seq ?_)))))
 obtain ⟨t10, h11, H⟩ := bind_some H
 refine run_region rfl (oM rfl (oz rfl (does_callk rfl callok31 rfl (impl_within.calls (x0 := x0) (x1 := 1) (x2 := 60) h11)) ?_))
 rintro _ w12 ⟨rfl, hn⟩
 replace HM := HM.callN hn rfl
 refine oM rfl (ops_nil (at_then (run_ret ?_)))
 cases H
 exact at_ret1 rfl rfl ⟨_, rfl, rfl, HM⟩

def impl_isRef.f (k : Nat) (x0 : Ref) : Option Bool := ((impl_isId.f k x0.fTx).bind fun t10 => ((bif t10 then impl_within.f k x0.fAt 0 3 else some default).bind fun t11 => some (t10 && t11)))
theorem impl_isRef.calls {k : Nat} {x0 : Ref}  {w : World}  {r : Bool} (H : impl_isRef.f k x0 = some r) :
  Calls Tryz.prog 29 ([.agg #[(nI x0.fTx), (nI x0.fAt)]] : List Value).toArray w (fun e w_ => ∃ v, e = .returned v ∧ v = (.bool r) ∧ Mem w [] w_ []) := by
 have HM := Mem.start w
 refine calls_run (N := 11) Tryz.func29 rfl rfl rfl rfl ?_
 unfold impl_isRef.f at H
 refine run_seq (run_region rfl (oz rfl (does_box (cs := [nI x0.fTx, nI x0.fAt]) rfl rfl rfl HM) ?_))
 rintro _ w12 ⟨b13, rfl, HM⟩
 refine oM rfl (ops_nil (at_then (run_seq ?_)))
 obtain ⟨t10, h14, H⟩ := bind_some H
 obtain ⟨t11, h15, H⟩ := bind_some H
 refine run_meet (fun ρ_ w_ => ρ_ = [(2, .bool (t10 && t11))] ∧ Mem w [] w_ []) ?_ ?_
 ·refine run_region rfl (oy rfl (ex_fieldAddr (off' := 0) rfl rfl U38 rfl tsz2 rfl) (oy rfl (ex_load1 rfl rfl U2 rfl ((HM.box_at 0 rfl) 0 _ rfl)) (oz rfl (does_callk rfl callok54 rfl (impl_isId.calls (x0 := x0.fTx) h14)) ?_)))
  rintro _ w16 ⟨rfl, hn⟩
  replace HM := HM.callN hn rfl
  refine oM rfl ?_
  refine bool_cases t10 (fun hg17 => ?_) (fun hg17 => ?_)
  ·refine gn rfl hg17 (ex_fieldAddr (off' := 1) rfl rfl U38 rfl tsz2 rfl) (gn rfl hg17 (ex_load1 rfl rfl U2 rfl ((HM.box_at 0 rfl) 1 _ rfl)) (ops_does rfl (guard_on rfl rfl rfl hg17) rfl rfl (does_callk rfl callok31 rfl (impl_within.calls (x0 := x0.fAt) (x1 := 0) (x2 := 3) (cond_t hg17 h15))) ?_))
   rintro _ w18 ⟨rfl, hn⟩
   replace HM := HM.callN hn rfl
   refine ops_ex (v := .bool (t10 && t11)) rfl (guard_none rfl) rfl rfl (ex_pand_t rfl rfl hg17 rfl) (oM rfl (ops_nil ?_))
   replace HM := HM.frd 0 rfl
   exact at_meet _ ⟨rfl, HM⟩ (Sub.of rfl)
  ·refine gf rfl hg17 (gf rfl hg17 (gf rfl hg17 ?_))
   have hg19 : (t10 && t11) = false := by simp only [hg17, Bool.and_true, Bool.true_and, Bool.and_false, Bool.false_and, Bool.or_true, Bool.true_or, Bool.or_false, Bool.false_or, Bool.not_true, Bool.not_false, Bool.not_not]
   refine ops_ex (v := .bool (t10 && t11)) rfl (guard_none rfl) rfl rfl (ex_pand_f rfl rfl hg17) (oM rfl (ops_nil ?_))
   replace HM := HM.frd 0 rfl
   exact at_meet _ ⟨rfl, HM⟩ (Sub.of rfl)
 ·rintro _ w20 ⟨rfl, HM⟩
  refine at_then (run_ret ?_)
  cases H
  exact at_ret1 rfl rfl ⟨_, rfl, rfl, HM⟩

def impl_isHeight.f (k : Nat) (x0 : Int) : Option Bool := ((impl_within.f k x0 0 999).bind fun t10 => some t10)
theorem impl_isHeight.calls {k : Nat} {x0 : Int}  {w : World}  {r : Bool} (H : impl_isHeight.f k x0 = some r) :
  Calls Tryz.prog 30 ([nI x0] : List Value).toArray w (fun e w_ => ∃ v, e = .returned v ∧ v = (.bool r) ∧ Mem w [] w_ []) := by
 have HM := Mem.start w
 refine calls_run (N := 5) Tryz.func30 rfl rfl rfl rfl ?_
 unfold impl_isHeight.f at H
 refine run_seq (run_region rfl (oM rfl (ops_nil (at_then (run_seq ?_)))))
 obtain ⟨t10, h11, H⟩ := bind_some H
 refine run_region rfl (oM rfl (oz rfl (does_callk rfl callok31 rfl (impl_within.calls (x0 := x0) (x1 := 0) (x2 := 999) h11)) ?_))
 rintro _ w12 ⟨rfl, hn⟩
 replace HM := HM.callN hn rfl
 refine oM rfl (ops_nil (at_then (run_ret ?_)))
 cases H
 exact at_ret1 rfl rfl ⟨_, rfl, rfl, HM⟩

def impl_isKey.f (k : Nat) (x0 : Int) : Option Bool := ((impl_within.f k x0 1 999).bind fun t10 => some t10)
theorem impl_isKey.calls {k : Nat} {x0 : Int}  {w : World}  {r : Bool} (H : impl_isKey.f k x0 = some r) :
  Calls Tryz.prog 39 ([nI x0] : List Value).toArray w (fun e w_ => ∃ v, e = .returned v ∧ v = (.bool r) ∧ Mem w [] w_ []) := by
 have HM := Mem.start w
 refine calls_run (N := 5) Tryz.func39 rfl rfl rfl rfl ?_
 unfold impl_isKey.f at H
 refine run_seq (run_region rfl (oM rfl (ops_nil (at_then (run_seq ?_)))))
 obtain ⟨t10, h11, H⟩ := bind_some H
 refine run_region rfl (oM rfl (oz rfl (does_callk rfl callok31 rfl (impl_within.calls (x0 := x0) (x1 := 1) (x2 := 999) h11)) ?_))
 rintro _ w12 ⟨rfl, hn⟩
 replace HM := HM.callN hn rfl
 refine oM rfl (ops_nil (at_then (run_ret ?_)))
 cases H
 exact at_ret1 rfl rfl ⟨_, rfl, rfl, HM⟩

def impl_areKeys_1.f (k : Nat) (x0 : Int) : Option Bool := ((impl_isKey.f k x0).bind fun t10 => some (!t10))
theorem impl_areKeys_1.calls {k : Nat} {x0 : Int}  {w : World}  {r : Bool} (H : impl_areKeys_1.f k x0 = some r) :
  Calls Tryz.prog 102 ([nI x0] : List Value).toArray w (fun e w_ => ∃ v, e = .returned v ∧ v = (.bool r) ∧ Mem w [] w_ []) := by
 have HM := Mem.start w
 refine calls_run (N := 6) Tryz.func102 rfl rfl rfl rfl ?_
 unfold impl_areKeys_1.f at H
 refine run_seq (run_region rfl (oM rfl (ops_nil (at_then (run_seq ?_)))))
 obtain ⟨t10, h11, H⟩ := bind_some H
 refine run_region rfl (oM rfl (oz rfl (does_callk rfl callok39 rfl (impl_isKey.calls (x0 := x0) h11)) ?_))
 rintro _ w12 ⟨rfl, hn⟩
 replace HM := HM.callN hn rfl
 refine oy rfl (ex_not rfl rfl) (oM rfl (ops_nil (at_then (run_ret ?_))))
 cases H
 exact at_ret1 rfl rfl ⟨_, rfl, rfl, HM⟩

def slices_IndexFunc_int64.l0 (x0 : List Int) : Nat → Int → Option (Int ⊕ Unit)
 | 0, _ => none
 | k + 1, a10 => (bif (decide (a10 < (x0.length : Int))) then (chk (idxOk a10 x0.length) ((impl_areKeys_1.f k (gt x0 a10)).bind fun t11 => (bif t11 then some (.inl a10) else slices_IndexFunc_int64.l0 x0 k (wrap64 (a10 + 1))))) else some (.inr ()))
def slices_IndexFunc_int64.f (k : Nat) (x0 : List Int) : Option Int := ((slices_IndexFunc_int64.l0 x0 k 0).bind fun o12 => thn o12 (fun r => some r) (fun _ => some (-1)))
theorem slices_IndexFunc_int64.calls {k : Nat} {x0 : List Int} {p0 : Value} {w : World} (hp0 : RdS kInt w p0 x0) {r : Int} (H : slices_IndexFunc_int64.f k x0 = some r) :
  Calls Tryz.prog 117 ([p0, .func (.func 102) #[] #[]] : List Value).toArray w (fun e w_ => ∃ v, e = .returned v ∧ v = (nI r) ∧ Mem w [] w_ []) := by
 have HM := Mem.start w
 refine calls_run (N := 19) Tryz.func117 rfl rfl rfl rfl ?_
 unfold slices_IndexFunc_int64.f at H
 refine run_seq (run_region rfl (oM rfl (ops_nil (at_then ?_))))
 obtain ⟨o12, ho13, H⟩ := bind_some H
 refine run_mid (fun ρ_ w_ => Sum.inr () = o12 ∧ ρ_ = [] ∧ Mem w [] w_ []) ?_ ?_
 ·refine run_seq (run_region rfl (oM rfl (oy rfl (ex_len (d := kInt) (xs := x0) rfl rfl U58 hp0) (oM rfl (ops_nil (at_then (run_block ?_)))))))
  refine run_loop (fun k_ ρ_ w_ => ∃ a10 : Int, slices_IndexFunc_int64.l0 x0 k_ a10 = some o12 ∧ ρ_ = [(0, p0), (1, .func (.func 102) #[] #[]), (7, nI (x0.length : Int)), (8, nI a10)] ∧ Mem w [] w_ []) k ⟨_, ho13, rfl, HM⟩ (Sub.of rfl) ?_
  clear HM ho13
  rintro k14 _ w15 ⟨a10, ho13, rfl, HM⟩
  obtain _ | k14 := k14
  ·exact nomatch ((slices_IndexFunc_int64.l0.eq_1 x0 a10).symm.trans ho13)
  replace ho13 := (slices_IndexFunc_int64.l0.eq_2 ..).symm.trans ho13
  refine run_seq (run_region rfl (oy rfl (ex_lss rfl rfl rfl) (ops_nil (at_then (run_seq (run_cond (b := (decide (a10 < (x0.length : Int)))) rfl (fun hb16 => ?_) (fun hb16 => ?_)))))))
  ·replace ho13 := cond_t hb16 ho13
   refine run_skip (at_then (run_seq (run_block (run_seq (run_region rfl (oM rfl (oM rfl (ops_nil (at_then (run_seq ?_))))))))))
   obtain ⟨e17, ho13⟩ := chk_some ho13
   obtain ⟨t11, h18, ho13⟩ := bind_some ho13
   refine run_region rfl (oM rfl (oM rfl (oM rfl ?_)))
   have hc19 : CellsAt _ (sb p0) (so p0 + (a10).toNat * 1) [(nI (gt x0 a10))] := rd_plain hp0 e17
   refine oy rfl (ex_indexAddr (d := kInt) rfl rfl rfl U58 tsz2 hp0 (idx_lo e17) (idx_hi e17)) (oy rfl (ex_load1 rfl rfl U2 rfl ((HM.at_ hc19) 0 _ rfl)) (oz rfl (does_callvk rfl callok102 rfl rfl rfl (impl_areKeys_1.calls (x0 := (gt x0 a10)) h18)) ?_))
   rintro _ w20 ⟨rfl, hn⟩
   replace HM := HM.callN hn rfl
   refine ops_nil (at_then (run_cond (b := t11) rfl (fun hb21 => ?_) (fun hb21 => ?_)))
   ·replace ho13 := cond_t hb21 ho13
    refine run_seq (run_region rfl (oM rfl (oM rfl (ops_nil (at_then (run_ret (at_block_ret (at_then_ret (at_then_ret (at_block_ret ?_))))))))))
    refine at_then_ret ?_
    cases ho13
    have hT := thn_inl H
    cases hT
    exact at_ret1 rfl rfl ⟨_, rfl, rfl, HM⟩
   ·replace ho13 := cond_f hb21 ho13
    exact run_skip (at_block (at_then (run_region rfl (oy rfl (ex_add rfl rfl rfl) (oM rfl (ops_nil (at_again k14 (Nat.lt_succ_self _) ⟨_, ho13, rfl, HM⟩ (Sub.of rfl))))))))
  ·replace ho13 := cond_f hb16 ho13
   exact run_exit (at_then_exit (at_then_exit (at_block_exit (at_mid ⟨(sj ho13), rfl, HM⟩ Sub.nil))))
 ·rintro _ w22 ⟨rfl, rfl, HM⟩
  replace H := (thn_inr H)
  refine run_seq (run_region rfl (oM rfl (ops_nil (at_then (run_ret ?_)))))
  cases H
  exact at_ret1 rfl rfl ⟨_, rfl, rfl, HM⟩

def slices_ContainsFunc_int64.f (k : Nat) (x0 : List Int) : Option Bool := ((slices_IndexFunc_int64.f k x0).bind fun t10 => some (decide (0 ≤ t10)))
theorem slices_ContainsFunc_int64.calls {k : Nat} {x0 : List Int} {p0 : Value} {w : World} (hp0 : RdS kInt w p0 x0) {r : Bool} (H : slices_ContainsFunc_int64.f k x0 = some r) :
  Calls Tryz.prog 101 ([p0, .func (.func 102) #[] #[]] : List Value).toArray w (fun e w_ => ∃ v, e = .returned v ∧ v = (.bool r) ∧ Mem w [] w_ []) := by
 have HM := Mem.start w
 refine calls_run (N := 9) Tryz.func101 rfl rfl rfl rfl ?_
 unfold slices_ContainsFunc_int64.f at H
 refine run_seq (run_region rfl (oM rfl (ops_nil (at_then (run_seq ?_)))))
 obtain ⟨t10, h11, H⟩ := bind_some H
 refine run_region rfl (oM rfl (oM rfl (oz rfl (does_callk rfl callok117 rfl (slices_IndexFunc_int64.calls (x0 := x0) (HM.rd hp0) h11)) ?_)))
 rintro _ w12 ⟨rfl, hn⟩
 replace HM := HM.callN hn rfl
 refine oy rfl (ex_geq rfl rfl rfl) (oM rfl (ops_nil (at_then (run_ret ?_))))
 cases H
 exact at_ret1 rfl rfl ⟨_, rfl, rfl, HM⟩

def impl_areKeys.f (k : Nat) (x0 : List Int) : Option Bool := ((slices_ContainsFunc_int64.f k x0).bind fun t10 => some (!t10))
theorem impl_areKeys.calls {k : Nat} {x0 : List Int} {p0 : Value} {w : World} (hp0 : RdS kInt w p0 x0) {r : Bool} (H : impl_areKeys.f k x0 = some r) :
  Calls Tryz.prog 66 ([p0] : List Value).toArray w (fun e w_ => ∃ v, e = .returned v ∧ v = (.bool r) ∧ Mem w [] w_ []) := by
 have HM := Mem.start w
 refine calls_run (N := 6) Tryz.func66 rfl rfl rfl rfl ?_
 unfold impl_areKeys.f at H
 refine run_seq (run_region rfl (oM rfl (ops_nil (at_then (run_seq ?_)))))
 obtain ⟨t10, h11, H⟩ := bind_some H
 refine run_region rfl (oM rfl (oz rfl (does_callk rfl callok101 rfl (slices_ContainsFunc_int64.calls (x0 := x0) (HM.rd hp0) h11)) ?_))
 rintro _ w12 ⟨rfl, hn⟩
 replace HM := HM.callN hn rfl
 refine oy rfl (ex_not rfl rfl) (oM rfl (ops_nil (at_then (run_ret ?_))))
 cases H
 exact at_ret1 rfl rfl ⟨_, rfl, rfl, HM⟩

def impl_isRising.l0 (x0 : List Int) : Nat → Int → Option (Bool ⊕ Unit)
 | 0, _ => none
 | k + 1, a10 => (bif (decide (a10 < (x0.length : Int))) then (chk (idxOk a10 x0.length) (chk (idxOk (wrap64 (a10 - 1)) x0.length) (bif (decide ((gt x0 a10) ≤ (gt x0 (wrap64 (a10 - 1))))) then some (.inl false) else impl_isRising.l0 x0 k (wrap64 (a10 + 1))))) else some (.inr ()))
def impl_isRising.f (k : Nat) (x0 : List Int) : Option Bool := ((impl_isRising.l0 x0 k 1).bind fun o11 => thn o11 (fun r => some r) (fun _ => some true))
theorem impl_isRising.calls {k : Nat} {x0 : List Int} {p0 : Value} {w : World} (hp0 : RdS kInt w p0 x0) {r : Bool} (H : impl_isRising.f k x0 = some r) :
  Calls Tryz.prog 67 ([p0] : List Value).toArray w (fun e w_ => ∃ v, e = .returned v ∧ v = (.bool r) ∧ Mem w [] w_ []) := by
 have HM := Mem.start w
 refine calls_run (N := 20) Tryz.func67 rfl rfl rfl rfl ?_
 unfold impl_isRising.f at H
 refine run_seq (run_region rfl (oM rfl (ops_nil (at_then ?_))))
 obtain ⟨o11, ho12, H⟩ := bind_some H
 refine run_mid (fun ρ_ w_ => Sum.inr () = o11 ∧ ρ_ = [] ∧ Mem w [] w_ []) ?_ ?_
 ·refine run_seq (run_region rfl (oM rfl (ops_nil (at_then (run_block ?_)))))
  refine run_loop (fun k_ ρ_ w_ => ∃ a10 : Int, impl_isRising.l0 x0 k_ a10 = some o11 ∧ ρ_ = [(0, p0), (3, nI a10)] ∧ Mem w [] w_ []) k ⟨_, ho12, rfl, HM⟩ (Sub.of rfl) ?_
  clear HM ho12
  rintro k13 _ w14 ⟨a10, ho12, rfl, HM⟩
  obtain _ | k13 := k13
  ·exact nomatch ((impl_isRising.l0.eq_1 x0 a10).symm.trans ho12)
  replace ho12 := (impl_isRising.l0.eq_2 ..).symm.trans ho12
  refine run_seq (run_seq (run_region rfl (oM rfl (oM rfl (oy rfl (ex_len (d := kInt) (xs := x0) rfl rfl U58 hp0) (oy rfl (ex_lss rfl rfl rfl) (ops_nil (at_then (run_cond (b := (decide (a10 < (x0.length : Int)))) rfl (fun hb15 => ?_) (fun hb15 => ?_))))))))))
  ·replace ho12 := cond_t hb15 ho12
   refine run_skip (at_then (run_seq (run_block (run_seq ?_))))
   obtain ⟨e16, ho12⟩ := chk_some ho12
   obtain ⟨e17, ho12⟩ := chk_some ho12
   refine run_drawf (fun w_ => Mem w [] w_ []) [(0, true), (1, true), (2, true), (3, true), (4, true), (5, true), (6, true), (7, true), (8, true), (9, true)] mixed rfl rfl (by kernel_rfl) ?_
   replace HM := HM.grow (fr_drew _)
   have hS := HM.sufN 0 rfl
   refine dp rfl rfl rfl rfl (ex_move rfl rfl) hS (dp rfl rfl rfl rfl (ex_move rfl rfl) hS ?_)
   have hc18 : CellsAt _ (sb p0) (so p0 + (a10).toNat * 1) [(nI (gt x0 a10))] := rd_plain hp0 e16
   refine dp rfl rfl rfl rfl (ex_indexAddr (d := kInt) rfl rfl rfl U58 tsz2 hp0 (idx_lo e16) (idx_hi e16)) hS (drwp_take rfl (guard_none rfl) rfl rfl (fun w_ hS_ => (ex_load1 rfl rfl U2 rfl ((hS_.at_ hc18) 0 _ rfl))) hS (dp rfl rfl rfl rfl (ex_move rfl rfl) hS (dp rfl rfl rfl rfl (ex_move rfl rfl) hS (dp rfl rfl rfl rfl (ex_sub rfl rfl rfl) hS ?_))))
   have hc19 : CellsAt _ (sb p0) (so p0 + (wrap64 (a10 - 1)).toNat * 1) [(nI (gt x0 (wrap64 (a10 - 1))))] := rd_plain hp0 e17
   refine dp rfl rfl rfl rfl (ex_indexAddr (d := kInt) rfl rfl rfl U58 tsz2 hp0 (idx_lo e17) (idx_hi e17)) hS (drwp_take rfl (guard_none rfl) rfl rfl (fun w_ hS_ => (ex_load1 rfl rfl U2 rfl ((hS_.at_ hc19) 0 _ rfl))) hS (dp rfl rfl rfl rfl (ex_leq rfl rfl rfl) hS (drwp_done (at_then (run_cond (b := (decide ((gt x0 a10) ≤ (gt x0 (wrap64 (a10 - 1)))))) rfl (fun hb20 => ?_) (fun hb20 => ?_))))))
   ·replace ho12 := cond_t hb20 ho12
    refine run_seq (run_region rfl (oM rfl (ops_nil (at_then (run_ret (at_block_ret (at_then_ret (at_then_ret (at_block_ret (at_then_ret ?_))))))))))
    cases ho12
    have hT := thn_inl H
    cases hT
    exact at_ret1 rfl rfl ⟨_, rfl, rfl, HM⟩
   ·replace ho12 := cond_f hb20 ho12
    exact run_skip (at_block (at_then (run_region rfl (oM rfl (oy rfl (ex_add rfl rfl rfl) (oM rfl (ops_nil (at_again k13 (Nat.lt_succ_self _) ⟨_, ho12, rfl, HM⟩ (Sub.of rfl)))))))))
  ·replace ho12 := cond_f hb15 ho12
   exact run_exit (at_then_exit (at_then_exit (at_block_exit (at_mid ⟨(sj ho12), rfl, HM⟩ Sub.nil))))
 ·rintro _ w21 ⟨rfl, rfl, HM⟩
  replace H := (thn_inr H)
  refine run_seq (run_region rfl (oM rfl (ops_nil (at_then (run_ret ?_)))))
  cases H
  exact at_ret1 rfl rfl ⟨_, rfl, rfl, HM⟩
end Go.Proofs.YtecgbhfgkkpmhacGreat.Zk
