/- What functions of the program compute, each as a plain function, and that they do. Conditions: as each theorem states them. -/
import Derived.Test.YtecgbhfgkkpmhacGreatFnUndosZkF2
namespace Go.Proofs.YtecgbhfgkkpmhacGreat.Zk
open Go Go.RowKit Go.IntWalk Go.Proofs
set_option linter.unusedVariables false
set_option linter.unusedSimpArgs false
set_option maxRecDepth 100000
set_option maxHeartbeats 4000000
def spec_l4Right.l0 (x0 : l1Src) : Nat → Int → (List Coin) → Int → Option (Int × (List Coin))
 | 0, _, _, _ => none
 | k + 1, a10, a11, a12 => (bif (decide (0 < a12)) then ((spec_l1Next.f k (⟨x0.fCode, a10⟩ : l1Src) 6).bind fun t13 => ((spec_l4DrawOuts.f k (⟨x0.fCode, t13.2⟩ : l1Src)).bind fun t14 => ((spec_l1Next.f k (⟨x0.fCode, t14.2⟩ : l1Src) 6).bind fun t15 => ((spec_l1Chance.f k (⟨x0.fCode, t15.2⟩ : l1Src) 3).bind fun t16 => ((spec_PutCoins.f k a11 (wrap64 (1 + t13.1)) t14.1 t15.1 t16.1).bind fun t17 => (bif (t17.fCode == 0) then spec_l4Right.l0 x0 k t16.2 t17.fCoins (wrap64 (a12 - 1)) else spec_l4Right.l0 x0 k t16.2 a11 (wrap64 (a12 - 1)))))))) else some (a10, a11))
def spec_l4Right.f (k : Nat) (x0 : l1Src) : Option ((List Coin) × Int) := (((spec_l1Next.f k x0 6).bind fun t18 => spec_l4Right.l0 x0 k t18.2 ([] : List Coin) t18.1).bind (cur2 (fun a19 a20 => some (a20, a19))))
theorem spec_l4Right.calls {k : Nat} {x0 : l1Src} {b0 : Nat} {p0_0 : Value} {w wo : World} {X : List Nat} (hwo : Olds wo w X) (hX : Hold w [box b0 78 [p0_0, nI x0.fAt]] X) (hXn : X.Nodup) (hXl : ∀ b ∈ X, b < w.heap.size) (hp0_0 : RdS kU8 wo p0_0 x0.fCode) {r : (List Coin) × Int} (H : spec_l4Right.f k x0 = some r) :
  Calls Tryz.prog 70 ([pA b0 0] : List Value).toArray w (fun e w_ => ∃ v, e = .returned v ∧ ∃ u0 : Value, v = u0 ∧ Mem w X w_ [own kCoin 70 u0 r.1, box b0 78 [p0_0, nI r.2]]) := by
 have HM := Mem.startX hX hXn hXl
 refine calls_run (N := 30) Tryz.func70 rfl rfl rfl rfl ?_
 unfold spec_l4Right.f at H
 refine run_seq (run_region rfl (oM rfl (ops_nil (at_then (run_seq (run_region rfl (oz rfl (does_lit (e := 70) (cs := []) (xs := ([] : List Coin)) kCoin rfl rfl (fun _ => by kernel_rfl) rfl rfl (fun _ _ h => by have h' : _ = [] := h; subst h'; exact .nil) HM.emp) ?_)))))))
 rintro v21 w22 HM
 refine oM rfl (ops_nil (at_then ?_))
 obtain ⟨o23, ho24, H⟩ := bind_some H
 refine run_mid (fun ρ_ w_ => ∃ a19 : Int, ∃ v25 : Value, ∃ a20 : List Coin, (a19, a20) = o23 ∧ ρ_ = [(3, v25)] ∧ Mem w X w_ [box b0 78 [p0_0, nI a19], own kCoin 70 v25 a20]) ?_ ?_
 ·clear H
  refine run_seq ?_
  obtain ⟨t18, h26, ho24⟩ := bind_some ho24
  refine run_region rfl (oM rfl ?_)
  replace HM := HM.fr1 1 rfl
  obtain ⟨F27, hF28, hFn29, hFl30, HMh31, hcl32⟩ := HM.hideN 1 rfl
  refine oz rfl (does_callk rfl callok16 rfl (spec_l1Next.calls (x0 := x0) (x1 := 6) (hide_olds _ _) hF28 hFn29 hFl30 (HMh31.rdo hwo hp0_0) h26)) ?_
  rintro _ w33 ⟨rfl, hn⟩
  replace HM := hcl32 _ _ _ rfl hn
  refine oM rfl (ops_nil (at_then (run_block ?_)))
  refine run_loop (fun k_ ρ_ w_ => ∃ a10 : Int, ∃ v34 : Value, ∃ a11 : List Coin, ∃ a12 : Int, spec_l4Right.l0 x0 k_ a10 a11 a12 = some o23 ∧ ρ_ = [(0, pA b0 0), (3, v34), (4, nI a12)] ∧ Mem w X w_ [box b0 78 [p0_0, nI a10], own kCoin 70 v34 a11]) k ⟨_, _, _, _, ho24, rfl, HM⟩ (Sub.of rfl) ?_
  clear HM ho24
  rintro k35 _ w36 ⟨a10, v34, a11, a12, ho24, rfl, HM⟩
  obtain _ | k35 := k35
  ·exact nomatch ((spec_l4Right.l0.eq_1 x0 a10 a11 a12).symm.trans ho24)
  replace ho24 := (spec_l4Right.l0.eq_2 ..).symm.trans ho24
  refine run_seq (run_seq (run_region rfl (oM rfl (oy rfl (ex_gtr rfl rfl rfl) (ops_nil (at_then (run_cond (b := (decide (0 < a12))) rfl (fun hb37 => ?_) (fun hb37 => ?_))))))))
  ·replace ho24 := cond_t hb37 ho24
   refine run_skip (at_then (run_seq (run_block (run_seq ?_))))
   obtain ⟨t13, h38, ho24⟩ := bind_some ho24
   obtain ⟨t14, h39, ho24⟩ := bind_some ho24
   obtain ⟨t15, h40, ho24⟩ := bind_some ho24
   obtain ⟨t16, h41, ho24⟩ := bind_some ho24
   obtain ⟨t17, h42, ho24⟩ := bind_some ho24
   refine run_region rfl (oM rfl (oM rfl ?_))
   obtain ⟨F43, hF44, hFn45, hFl46, HMh47, hcl48⟩ := HM.hideN 1 rfl
   refine oz rfl (does_callk rfl callok16 rfl (spec_l1Next.calls (x0 := (⟨x0.fCode, a10⟩ : l1Src)) (x1 := 6) (hide_olds _ _) hF44 hFn45 hFl46 (HMh47.rdo hwo hp0_0) h38)) ?_
   rintro _ w49 ⟨rfl, hn⟩
   replace HM := hcl48 _ _ _ rfl hn
   refine oy rfl (ex_add rfl rfl rfl) (oM rfl ?_)
   obtain ⟨F50, hF51, hFn52, hFl53, HMh54, hcl55⟩ := HM.hideN 1 rfl
   refine oz rfl (does_callk rfl callok104 rfl (spec_l4DrawOuts.calls (x0 := (⟨x0.fCode, t13.2⟩ : l1Src)) (hide_olds _ _) hF51 hFn52 hFl53 (HMh54.rdo hwo hp0_0) h39)) ?_
   rintro u56 w57 ⟨_, rfl, hn⟩
   replace HM := hcl55 _ _ _ rfl hn
   refine oM rfl ?_
   replace HM := HM.fr1 1 rfl
   obtain ⟨F58, hF59, hFn60, hFl61, HMh62, hcl63⟩ := HM.hideN 1 rfl
   refine oz rfl (does_callk rfl callok16 rfl (spec_l1Next.calls (x0 := (⟨x0.fCode, t14.2⟩ : l1Src)) (x1 := 6) (hide_olds _ _) hF59 hFn60 hFl61 (HMh62.rdo hwo hp0_0) h40)) ?_
   rintro _ w64 ⟨rfl, hn⟩
   replace HM := hcl63 _ _ _ rfl hn
   refine oM rfl ?_
   obtain ⟨F65, hF66, hFn67, hFl68, HMh69, hcl70⟩ := HM.hideN 1 rfl
   refine oz rfl (does_callk rfl callok75 rfl (spec_l1Chance.calls (x0 := (⟨x0.fCode, t15.2⟩ : l1Src)) (x1 := 3) (hide_olds _ _) hF66 hFn67 hFl68 (HMh69.rdo hwo hp0_0) h41)) ?_
   rintro _ w71 ⟨rfl, hn⟩
   replace HM := hcl70 _ _ _ rfl hn
   refine oz rfl (does_callk rfl callok22 rfl (spec_PutCoins.calls (x0 := a11) (x1 := wrap64 (1 + t13.1)) (x2 := t14.1) (x3 := t15.1) (x4 := t16.1) (HM.own_rd 2 rfl) (HM.own_rd 1 rfl) h42)) ?_
   rintro _ w72 ⟨u73, rfl, hn⟩
   replace HM := HM.callN hn rfl
   refine oz rfl (does_alloc (cs := [nI 0, .slice none 0 0]) rfl tz32 rfl HM) ?_
   rintro _ w74 ⟨b75, rfl, HM⟩
   refine odS rfl rfl rfl (does_store (vs := [nI t17.fCode, u73]) (cs' := [nI t17.fCode, u73]) rfl rfl rfl rfl tsz32 (Ones.int (Ones.rd (HM.own_rd 1 rfl) Ones.nil)) rfl rfl HM) ?_
   rintro w76 HM
   refine ops_nil (at_then (run_seq (run_region rfl (oy rfl (ex_fieldAddr (off' := 0) rfl rfl U32 rfl tsz2 rfl) (oy rfl (ex_load1 rfl rfl U2 rfl ((HM.box_at 0 rfl) 0 _ rfl)) (oy rfl (ex_eql rfl rfl rfl) (ops_nil (at_then (run_cond (b := (t17.fCode == 0)) rfl (fun hb77 => ?_) (fun hb77 => ?_))))))))))
   ·replace ho24 := cond_t hb77 ho24
    refine run_region rfl (oy rfl (ex_fieldAddr (off' := 1) rfl rfl U32 rfl tsz24 rfl) (oy rfl (ex_load1 rfl rfl U24 rfl ((HM.box_at 0 rfl) 1 _ rfl)) (oM rfl (ops_nil (at_block (at_then (run_region rfl (oM rfl (oy rfl (ex_sub rfl rfl rfl) ?_)))))))))
    refine oM rfl (ops_nil ?_)
    replace HM := ((HM.frd 0 rfl).frd 2 rfl).frd 2 rfl
    replace HM := HM.fr1 1 rfl
    exact at_again k35 (Nat.lt_succ_self _) ⟨_, _, _, _, ho24, rfl, HM⟩ (Sub.of rfl)
   ·replace ho24 := cond_f hb77 ho24
    refine run_skip (at_block (at_then (run_region rfl (oM rfl (oy rfl (ex_sub rfl rfl rfl) (oM rfl (ops_nil ?_)))))))
    replace HM := ((HM.frd 0 rfl).frd 0 rfl).frd 1 rfl
    exact at_again k35 (Nat.lt_succ_self _) ⟨_, _, _, _, ho24, rfl, HM⟩ (Sub.of rfl)
  ·replace ho24 := cond_f hb37 ho24
   exact run_exit (at_then_exit (at_then_exit (at_block_exit (at_mid ⟨_, _, _, (sj ho24), rfl, HM⟩ (Sub.of rfl)))))
 ·rintro _ w78 ⟨a19, v25, a20, rfl, rfl, HM⟩
  replace H := cur2_mk H
  refine run_seq (run_region rfl (oM rfl (oM rfl (ops_nil (at_then (run_ret ?_))))))
  replace HM := HM.fr1 1 rfl
  cases H
  exact at_ret1 rfl rfl ⟨_, rfl, _, rfl, HM⟩

def spec_l3Among.l0 (x0 : List Ref) (x1 : Ref) : Nat → Int → Option (Bool ⊕ Unit)
 | 0, _ => none
 | k + 1, a10 => (bif (decide (a10 < (x0.length : Int))) then (chk (idxOk a10 x0.length) (bif ((((gt x0 a10).fTx) == x1.fTx) && (((gt x0 a10).fAt) == x1.fAt)) then some (.inl true) else spec_l3Among.l0 x0 x1 k (wrap64 (a10 + 1)))) else some (.inr ()))
def spec_l3Among.f (k : Nat) (x0 : List Ref) (x1 : Ref) : Option Bool := ((spec_l3Among.l0 x0 x1 k 0).bind fun o11 => thn o11 (fun r => some r) (fun _ => some false))
theorem spec_l3Among.calls {k : Nat} {x0 : List Ref} {x1 : Ref} {p0 : Value} {w : World} (hp0 : RdS kRef w p0 x0) {r : Bool} (H : spec_l3Among.f k x0 x1 = some r) :
  Calls Tryz.prog 87 ([p0, .agg #[(nI x1.fTx), (nI x1.fAt)]] : List Value).toArray w (fun e w_ => ∃ v, e = .returned v ∧ v = (.bool r) ∧ Mem w [] w_ []) := by
 have HM := Mem.start w
 refine calls_run (N := 18) Tryz.func87 rfl rfl rfl rfl ?_
 unfold spec_l3Among.f at H
 refine run_seq (run_region rfl (oz rfl (does_box (cs := [nI x1.fTx, nI x1.fAt]) rfl rfl rfl HM) ?_))
 rintro _ w12 ⟨b13, rfl, HM⟩
 refine oM rfl (ops_nil (at_then ?_))
 obtain ⟨o11, ho14, H⟩ := bind_some H
 refine run_mid (fun ρ_ w_ => Sum.inr () = o11 ∧ ρ_ = [] ∧ Mem w [] w_ []) ?_ ?_
 ·refine run_seq (run_region rfl (oM rfl (ops_nil (at_then (run_block ?_)))))
  refine run_loop (fun k_ ρ_ w_ => ∃ a10 : Int, spec_l3Among.l0 x0 x1 k_ a10 = some o11 ∧ ρ_ = [(0, p0), (3, pA b13 0), (5, nI a10)] ∧ Mem w [] w_ [box b13 38 [nI x1.fTx, nI x1.fAt]]) k ⟨_, ho14, rfl, HM⟩ (Sub.of rfl) ?_
  clear HM ho14
  rintro k15 _ w16 ⟨a10, ho14, rfl, HM⟩
  obtain _ | k15 := k15
  ·exact nomatch ((spec_l3Among.l0.eq_1 x0 x1 a10).symm.trans ho14)
  replace ho14 := (spec_l3Among.l0.eq_2 ..).symm.trans ho14
  refine run_seq (run_seq (run_region rfl (oM rfl (oM rfl (oy rfl (ex_len (d := kRef) (xs := x0) rfl rfl U25 hp0) (oy rfl (ex_lss rfl rfl rfl) (ops_nil (at_then (run_cond (b := (decide (a10 < (x0.length : Int)))) rfl (fun hb17 => ?_) (fun hb17 => ?_))))))))))
  ·replace ho14 := cond_t hb17 ho14
   refine run_skip (at_then (run_seq (run_block (run_seq ?_))))
   obtain ⟨e18, ho14⟩ := chk_some ho14
   refine run_drawf (fun w_ => Mem w [] w_ [box b13 38 [nI x1.fTx, nI x1.fAt]]) [(0, true), (1, true), (2, true), (3, true), (4, true), (5, true)] mixed rfl rfl (by kernel_rfl) ?_
   replace HM := HM.grow (fr_drew _)
   have hS := HM.sufN 0 rfl
   refine dp rfl rfl rfl rfl (ex_move rfl rfl) hS (dp rfl rfl rfl rfl (ex_move rfl rfl) hS ?_)
   have hc19 : CellsAt _ (sb p0) (so p0 + (a10).toNat * 2) [(nI ((gt x0 a10).fTx)), (nI ((gt x0 a10).fAt))] := rd_plain hp0 e18
   refine dp rfl rfl rfl rfl (ex_indexAddr (d := kRef) rfl rfl rfl U25 tsz38 hp0 (idx_lo e18) (idx_hi e18)) hS (drwp_take rfl (guard_none rfl) rfl rfl (fun w_ hS_ => (ldN rfl rfl U38 rfl tsz38 ((hS_.at_ hc19).subL 0 2 rfl) rfl)) hS (drwp_take rfl (guard_none rfl) rfl rfl (fun w_ hS_ => (ldN rfl rfl U38 rfl tsz38 ((hS_.box_at 0 rfl).subL 0 2 rfl) rfl)) hS (dp rfl rfl rfl rfl (ex_aeql rfl rfl rfl (by kernel_rfl) (eqs38 _ _ _ _ _)) hS ?_)))
   refine drwp_done (at_then (run_cond (b := ((((gt x0 a10).fTx) == x1.fTx) && (((gt x0 a10).fAt) == x1.fAt))) rfl (fun hb20 => ?_) (fun hb20 => ?_)))
   ·replace ho14 := cond_t hb20 ho14
    refine run_seq (run_region rfl (oM rfl (ops_nil (at_then (run_ret (at_block_ret (at_then_ret (at_then_ret (at_block_ret (at_then_ret ?_))))))))))
    replace HM := HM.frd 0 rfl
    cases ho14
    have hT := thn_inl H
    cases hT
    exact at_ret1 rfl rfl ⟨_, rfl, rfl, HM⟩
   ·replace ho14 := cond_f hb20 ho14
    exact run_skip (at_block (at_then (run_region rfl (oM rfl (oy rfl (ex_add rfl rfl rfl) (oM rfl (ops_nil (at_again k15 (Nat.lt_succ_self _) ⟨_, ho14, rfl, HM⟩ (Sub.of rfl)))))))))
  ·replace ho14 := cond_f hb17 ho14
   refine run_exit (at_then_exit (at_then_exit (at_block_exit ?_)))
   replace HM := HM.frd 0 rfl
   exact at_mid ⟨(sj ho14), rfl, HM⟩ Sub.nil
 ·rintro _ w21 ⟨rfl, rfl, HM⟩
  replace H := (thn_inr H)
  refine run_seq (run_region rfl (oM rfl (ops_nil (at_then (run_ret ?_)))))
  cases H
  exact at_ret1 rfl rfl ⟨_, rfl, rfl, HM⟩

def spec_l3Draw.l0 (x0 : l1Src) : Nat → Int → (List Ref) → Int → Option (Int × (List Ref))
 | 0, _, _, _ => none
 | k + 1, a10, a11, a12 => (bif (decide (0 < a12)) then ((spec_l1Next.f k (⟨x0.fCode, a10⟩ : l1Src) 6).bind fun t13 => ((spec_l1Next.f k (⟨x0.fCode, t13.2⟩ : l1Src) 2).bind fun t14 => ((spec_l3Among.f k a11 (⟨wrap64 (1 + t13.1), t14.1⟩ : Ref)).bind fun t15 => (bif !t15 then (chk (leB ((a11.length + ([(⟨wrap64 (1 + t13.1), t14.1⟩ : Ref)] : List Ref).length) * 16) 140737488355328) (spec_l3Draw.l0 x0 k t14.2 (a11 ++ ([(⟨wrap64 (1 + t13.1), t14.1⟩ : Ref)] : List Ref)) (wrap64 (a12 - 1)))) else spec_l3Draw.l0 x0 k t14.2 a11 (wrap64 (a12 - 1)))))) else some (a10, a11))
def spec_l3Draw.l1 (x0 : l1Src) : Nat → Int → (List Out) → Int → Option (Int × (List Out))
 | 0, _, _, _ => none
 | k + 1, a16, a17, a18 => (bif (decide (0 < a18)) then ((spec_l1Next.f k (⟨x0.fCode, a16⟩ : l1Src) 99).bind fun t19 => ((spec_l2Draw.f k (⟨x0.fCode, t19.2⟩ : l1Src)).bind fun t20 => (chk (leB ((a17.length + ([(⟨wrap64 (100 + t19.1), (⟨t20.1.fKeys, t20.1.fNeed, t20.1.fAfter⟩ : Rule)⟩ : Out)] : List Out).length) * 48) 140737488355328) (spec_l3Draw.l1 x0 k t20.2 (a17 ++ ([(⟨wrap64 (100 + t19.1), (⟨t20.1.fKeys, t20.1.fNeed, t20.1.fAfter⟩ : Rule)⟩ : Out)] : List Out)) (wrap64 (a18 - 1)))))) else some (a16, a17))
def spec_l3Draw.f (k : Nat) (x0 : l1Src) : Option (Tx × Int) := ((spec_l1Pick.f k x0 ([0, 0, 0, 1, 2] : List Int)).bind fun t21 => ((bif (t21.1 != 0) then ((spec_l1Next.f k (⟨x0.fCode, t21.2⟩ : l1Src) 4).bind fun t22 => some (t22.2, wrap64 (1 + t22.1))) else some (t21.2, 0)).bind (cur2 (fun a23 a24 => (((spec_l1Next.f k (⟨x0.fCode, a23⟩ : l1Src) 2).bind fun t25 => spec_l3Draw.l0 x0 k t25.2 ([] : List Ref) (wrap64 (1 + t25.1))).bind (cur2 (fun a26 a27 => (((spec_l1Next.f k (⟨x0.fCode, a26⟩ : l1Src) 2).bind fun t28 => spec_l3Draw.l1 x0 k t28.2 ([] : List Out) (wrap64 (1 + t28.1))).bind (cur2 (fun a29 a30 => some ((⟨t21.1, a24, a27, a30⟩ : Tx), a29)))))))))))
theorem spec_l3Draw.calls {k : Nat} {x0 : l1Src} {b0 : Nat} {p0_0 : Value} {w wo : World} {X : List Nat} (hwo : Olds wo w X) (hX : Hold w [box b0 78 [p0_0, nI x0.fAt]] X) (hXn : X.Nodup) (hXl : ∀ b ∈ X, b < w.heap.size) (hp0_0 : RdS kU8 wo p0_0 x0.fCode) {r : Tx × Int} (H : spec_l3Draw.f k x0 = some r) :
  Calls Tryz.prog 78 ([pA b0 0] : List Value).toArray w (fun e w_ => ∃ v, e = .returned v ∧ ∃ u0 : Value, ∃ u1 : Value, v = (.agg #[nI r.1.fKind, nI r.1.fMember, u0, u1]) ∧ Mem w X w_ [own kRef 38 u0 r.1.fIns, own kOut 68 u1 r.1.fOuts, box b0 78 [p0_0, nI r.2]]) := by
 have HM := Mem.startX hX hXn hXl
 refine calls_run (N := 61) Tryz.func78 rfl rfl rfl rfl ?_
 unfold spec_l3Draw.f at H
 refine run_seq (run_region rfl (oz rfl (does_alloc (cs := [nI 0, nI 0, .slice none 0 0, .slice none 0 0]) rfl tz28 rfl HM) ?_))
 rintro _ w31 ⟨b32, rfl, HM⟩
 refine ops_nil (at_then (run_seq ?_))
 obtain ⟨t21, h33, H⟩ := bind_some H
 refine run_region rfl (oM rfl (oz rfl (does_lit (e := 2) (cs := [nI 0, nI 0, nI 0, nI 1, nI 2]) (xs := ([0, 0, 0, 1, 2] : List Int)) kInt rfl rfl (fun _ => by kernel_rfl) rfl rfl (fun _ _ h => by have h' : _ = [] := h; subst h'; exact (Elems.cons (d := kInt) (x := 0) (f := []) ⟨rfl, rfl⟩ (Elems.cons (d := kInt) (x := 0) (f := []) ⟨rfl, rfl⟩ (Elems.cons (d := kInt) (x := 0) (f := []) ⟨rfl, rfl⟩ (Elems.cons (d := kInt) (x := 1) (f := []) ⟨rfl, rfl⟩ (Elems.cons (d := kInt) (x := 2) (f := []) ⟨rfl, rfl⟩ .nil)))))) HM.emp) ?_))
 rintro v34 w35 HM
 replace HM := HM.fr1 2 rfl
 obtain ⟨F36, hF37, hFn38, hFl39, HMh40, hcl41⟩ := HM.hideN 1 rfl
 refine oz rfl (does_callk rfl callok15 rfl (spec_l1Pick.calls (x0 := x0) (x1 := ([0, 0, 0, 1, 2] : List Int)) (hide_olds _ _) hF37 hFn38 hFl39 (HMh40.rdo hwo hp0_0) (HMh40.own_rd 0 rfl) h33)) ?_
 rintro _ w42 ⟨rfl, hn⟩
 replace HM := hcl41 _ _ _ rfl hn
 refine oy rfl (ex_build (cells := #[(nI t21.1), (nI 0), (.slice none 0 0), (.slice none 0 0)]) rfl rfl (by kernel_rfl)) ?_
 refine oz rfl (does_alloc (cs := [nI 0, nI 0, .slice none 0 0, .slice none 0 0]) rfl tz28 rfl HM) ?_
 rintro _ w43 ⟨b44, rfl, HM⟩
 refine odS rfl rfl rfl (does_store (vs := [nI t21.1, nI 0, .slice none 0 0, .slice none 0 0]) (cs' := [nI t21.1, nI 0, .slice none 0 0, .slice none 0 0]) rfl rfl rfl rfl tsz28 (Ones.int (Ones.int (Ones.sl (Ones.sl Ones.nil)))) rfl rfl HM) ?_
 rintro w45 HM
 refine ops_nil (at_then ?_)
 obtain ⟨o46, ho47, H⟩ := bind_some H
 refine run_mid (fun ρ_ w_ => ∃ a23 : Int, ∃ a24 : Int, (a23, a24) = o46 ∧ ρ_ = [(0, pA b0 0), (2, pA b32 0), (3, pA b44 0)] ∧ Mem w X w_ [box b0 78 [p0_0, nI a23], box b32 28 [nI 0, nI 0, .slice none 0 0, .slice none 0 0], box b44 28 [nI t21.1, nI a24, .slice none 0 0, .slice none 0 0]]) ?_ ?_
 ·clear H
  refine run_seq (run_region rfl (oy rfl (ex_fieldAddr (off' := 0) rfl rfl U28 rfl tsz2 rfl) (oy rfl (ex_load1 rfl rfl U2 rfl ((HM.box_at 0 rfl) 0 _ rfl)) (oy rfl (ex_neq rfl rfl rfl) (ops_nil (at_then (run_cond (b := (t21.1 != 0)) rfl (fun hb48 => ?_) (fun hb48 => ?_))))))))
  ·replace ho47 := cond_t hb48 ho47
   obtain ⟨t22, h49, ho47⟩ := bind_some ho47
   refine run_region rfl (oM rfl ?_)
   replace HM := HM.fr1 1 rfl
   obtain ⟨F50, hF51, hFn52, hFl53, HMh54, hcl55⟩ := HM.hideN 1 rfl
   refine oz rfl (does_callk rfl callok16 rfl (spec_l1Next.calls (x0 := (⟨x0.fCode, t21.2⟩ : l1Src)) (x1 := 4) (hide_olds _ _) hF51 hFn52 hFl53 (HMh54.rdo hwo hp0_0) h49)) ?_
   rintro _ w56 ⟨rfl, hn⟩
   replace HM := hcl55 _ _ _ rfl hn
   refine oy rfl (ex_add rfl rfl rfl) (oy rfl (ex_fieldAddr (off' := 1) rfl rfl U28 rfl tsz2 rfl) ?_)
   replace HM := HM.fr1 1 rfl
   refine odS rfl rfl rfl (does_store (vs := [nI (wrap64 (1 + t22.1))]) (cs' := [nI t21.1, nI (wrap64 (1 + t22.1)), .slice none 0 0, .slice none 0 0]) rfl rfl rfl rfl tsz2 (Ones.int Ones.nil) rfl rfl HM) ?_
   rintro w57 HM
   refine ops_nil ?_
   replace HM := ((HM.frd 2 rfl).fr1 2 rfl).fr1 2 rfl
   exact at_mid ⟨_, _, (sj ho47), rfl, HM⟩ (Sub.of rfl)
  ·replace ho47 := cond_f hb48 ho47
   refine run_skip ?_
   replace HM := ((HM.frd 2 rfl).fr1 2 rfl).fr1 2 rfl
   exact at_mid ⟨_, _, (sj ho47), rfl, HM⟩ (Sub.of rfl)
 ·rintro _ w58 ⟨a23, a24, rfl, rfl, HM⟩
  replace H := cur2_mk H
  obtain ⟨o59, ho60, H⟩ := bind_some H
  refine run_mid (fun ρ_ w_ => ∃ a26 : Int, ∃ v61 : Value, ∃ a27 : List Ref, (a26, a27) = o59 ∧ ρ_ = [(0, pA b0 0), (2, pA b32 0), (3, pA b44 0)] ∧ Mem w X w_ [box b0 78 [p0_0, nI a26], box b32 28 [nI 0, nI 0, .slice none 0 0, .slice none 0 0], box b44 28 [nI t21.1, nI a24, v61, .slice none 0 0], own kRef 38 v61 a27]) ?_ ?_
  ·clear H
   refine run_seq ?_
   obtain ⟨t25, h62, ho60⟩ := bind_some ho60
   refine run_region rfl (oM rfl ?_)
   obtain ⟨F63, hF64, hFn65, hFl66, HMh67, hcl68⟩ := HM.hideN 1 rfl
   refine oz rfl (does_callk rfl callok16 rfl (spec_l1Next.calls (x0 := (⟨x0.fCode, a23⟩ : l1Src)) (x1 := 2) (hide_olds _ _) hF64 hFn65 hFl66 (HMh67.rdo hwo hp0_0) h62)) ?_
   rintro _ w69 ⟨rfl, hn⟩
   replace HM := hcl68 _ _ _ rfl hn
   refine oy rfl (ex_add rfl rfl rfl) (oM rfl (ops_nil (at_then (run_block ?_))))
   replace HM := ((HM.empty kRef 38 none).fr1 3 rfl).fr1 3 rfl
   replace HM := HM.fr1 3 rfl
   refine run_loop (fun k_ ρ_ w_ => ∃ a10 : Int, ∃ v70 : Value, ∃ a11 : List Ref, ∃ a12 : Int, spec_l3Draw.l0 x0 k_ a10 a11 a12 = some o59 ∧ ρ_ = [(0, pA b0 0), (2, pA b32 0), (3, pA b44 0), (4, nI a12)] ∧ Mem w X w_ [box b0 78 [p0_0, nI a10], box b32 28 [nI 0, nI 0, .slice none 0 0, .slice none 0 0], box b44 28 [nI t21.1, nI a24, v70, .slice none 0 0], own kRef 38 v70 a11]) k ⟨_, _, _, _, ho60, rfl, HM⟩ (Sub.of rfl) ?_
   clear HM ho60
   rintro k71 _ w72 ⟨a10, v70, a11, a12, ho60, rfl, HM⟩
   obtain _ | k71 := k71
   ·exact nomatch ((spec_l3Draw.l0.eq_1 x0 a10 a11 a12).symm.trans ho60)
   replace ho60 := (spec_l3Draw.l0.eq_2 ..).symm.trans ho60
   refine run_seq (run_seq (run_region rfl (oM rfl (oy rfl (ex_gtr rfl rfl rfl) (ops_nil (at_then (run_cond (b := (decide (0 < a12))) rfl (fun hb73 => ?_) (fun hb73 => ?_))))))))
   ·replace ho60 := cond_t hb73 ho60
    refine run_skip (at_then (run_seq (run_block (run_seq ?_))))
    obtain ⟨t13, h74, ho60⟩ := bind_some ho60
    obtain ⟨t14, h75, ho60⟩ := bind_some ho60
    refine run_region rfl (oM rfl ?_)
    obtain ⟨F76, hF77, hFn78, hFl79, HMh80, hcl81⟩ := HM.hideN 1 rfl
    refine oz rfl (does_callk rfl callok16 rfl (spec_l1Next.calls (x0 := (⟨x0.fCode, a10⟩ : l1Src)) (x1 := 6) (hide_olds _ _) hF77 hFn78 hFl79 (HMh80.rdo hwo hp0_0) h74)) ?_
    rintro _ w82 ⟨rfl, hn⟩
    replace HM := hcl81 _ _ _ rfl hn
    refine oy rfl (ex_add rfl rfl rfl) (oM rfl ?_)
    obtain ⟨F83, hF84, hFn85, hFl86, HMh87, hcl88⟩ := HM.hideN 1 rfl
    refine oz rfl (does_callk rfl callok16 rfl (spec_l1Next.calls (x0 := (⟨x0.fCode, t13.2⟩ : l1Src)) (x1 := 2) (hide_olds _ _) hF84 hFn85 hFl86 (HMh87.rdo hwo hp0_0) h75)) ?_
    rintro _ w89 ⟨rfl, hn⟩
    replace HM := hcl88 _ _ _ rfl hn
    refine oy rfl (ex_build (cells := #[(nI (wrap64 (1 + t13.1))), (nI t14.1)]) rfl rfl (by kernel_rfl)) ?_
    refine oz rfl (does_alloc (cs := [nI 0, nI 0]) rfl tz38 rfl HM) ?_
    rintro _ w90 ⟨b91, rfl, HM⟩
    refine odS rfl rfl rfl (does_store (vs := [nI (wrap64 (1 + t13.1)), nI t14.1]) (cs' := [nI (wrap64 (1 + t13.1)), nI t14.1]) rfl rfl rfl rfl tsz38 (Ones.int (Ones.int Ones.nil)) rfl rfl HM) ?_
    rintro w92 HM
    refine ops_nil (at_then (run_seq ?_))
    obtain ⟨t15, h93, ho60⟩ := bind_some ho60
    refine run_region rfl (oy rfl (ex_fieldAddr (off' := 2) rfl rfl U28 rfl tsz25 rfl) (oy rfl (ex_load1 rfl rfl U25 rfl ((HM.box_at 3 rfl) 2 _ rfl)) (oy rfl (ldN rfl rfl U38 rfl tsz38 ((HM.box_at 0 rfl).subL 0 2 rfl) rfl) (oz rfl (does_callk rfl callok87 rfl (spec_l3Among.calls (x0 := a11) (x1 := (⟨wrap64 (1 + t13.1), t14.1⟩ : Ref)) (HM.own_rd 4 rfl) h93)) ?_))))
    rintro _ w94 ⟨rfl, hn⟩
    replace HM := HM.callN hn rfl
    refine oy rfl (ex_not rfl rfl) (ops_nil (at_then (run_cond (b := !t15) rfl (fun hb95 => ?_) (fun hb95 => ?_))))
    ·replace ho60 := cond_t hb95 ho60
     obtain ⟨e96, ho60⟩ := chk_some ho60
     refine run_region rfl (oy rfl (ex_fieldAddr (off' := 2) rfl rfl U28 rfl tsz25 rfl) (oy rfl (ex_load1 rfl rfl U25 rfl ((HM.box_at 3 rfl) 2 _ rfl)) (oy rfl (ldN rfl rfl U38 rfl tsz38 ((HM.box_at 0 rfl).subL 0 2 rfl) rfl) (oz rfl (does_lit (e := 38) (cs := [nI (wrap64 (1 + t13.1)), nI t14.1]) (xs := ([(⟨wrap64 (1 + t13.1), t14.1⟩ : Ref)] : List Ref)) kRef rfl rfl (fun _ => by kernel_rfl) rfl rfl (fun _ _ h => by have h' : _ = [] := h; subst h'; exact (Elems.cons (d := kRef) (x := (⟨wrap64 (1 + t13.1), t14.1⟩ : Ref)) (f := []) ⟨rfl, rfl⟩ .nil)) HM.emp) ?_))))
     rintro v97 w98 HM
     replace HM := HM.fr1 5 rfl
     refine oz rfl (does_appendR kRef flat_plain rfl rfl rfl U25 tsz38 rfl tby38 tz38 rfl rfl (leB_le e96) (HM.own_rd 1 rfl) HM) ?_
     rintro v99 w100 HM
     refine oy rfl (ex_fieldAddr (off' := 2) rfl rfl U28 rfl tsz25 rfl) ?_
     replace HM := HM.fr1 5 rfl
     refine odS rfl rfl rfl (does_store (vs := [v99]) (cs' := [nI t21.1, nI a24, v99, .slice none 0 0]) rfl rfl rfl (rd_cells (HM.own_rd 1 rfl)) tsz25 (Ones.rd (HM.own_rd 1 rfl) Ones.nil) rfl rfl HM) ?_
     rintro w101 HM
     refine ops_nil (at_block (at_then (run_region rfl (oM rfl (oy rfl (ex_sub rfl rfl rfl) (oM rfl (ops_nil ?_)))))))
     replace HM := ((HM.frd 2 rfl).frd 2 rfl).fr1 1 rfl
     replace HM := ((HM.fr1 1 rfl).fr1 3 rfl).fr1 3 rfl
     exact at_again k71 (Nat.lt_succ_self _) ⟨_, _, _, _, ho60, rfl, HM⟩ (Sub.of rfl)
    ·replace ho60 := cond_f hb95 ho60
     refine run_skip (at_block (at_then (run_region rfl (oM rfl (oy rfl (ex_sub rfl rfl rfl) (oM rfl (ops_nil ?_)))))))
     replace HM := HM.frd 0 rfl
     exact at_again k71 (Nat.lt_succ_self _) ⟨_, _, _, _, ho60, rfl, HM⟩ (Sub.of rfl)
   ·replace ho60 := cond_f hb73 ho60
    exact run_exit (at_then_exit (at_then_exit (at_block_exit (at_mid ⟨_, _, _, (sj ho60), rfl, HM⟩ (Sub.of rfl)))))
  ·rintro _ w102 ⟨a26, v61, a27, rfl, rfl, HM⟩
   replace H := cur2_mk H
   obtain ⟨o103, ho104, H⟩ := bind_some H
   refine run_mid (fun ρ_ w_ => ∃ a29 : Int, ∃ v105 : Value, ∃ a30 : List Out, (a29, a30) = o103 ∧ ρ_ = [(2, pA b32 0), (3, pA b44 0)] ∧ Mem w X w_ [box b0 78 [p0_0, nI a29], box b32 28 [nI 0, nI 0, .slice none 0 0, .slice none 0 0], box b44 28 [nI t21.1, nI a24, v61, v105], own kRef 38 v61 a27, own kOut 68 v105 a30]) ?_ ?_
   ·clear H
    refine run_seq ?_
    obtain ⟨t28, h106, ho104⟩ := bind_some ho104
    refine run_region rfl (oM rfl ?_)
    obtain ⟨F107, hF108, hFn109, hFl110, HMh111, hcl112⟩ := HM.hideN 1 rfl
    refine oz rfl (does_callk rfl callok16 rfl (spec_l1Next.calls (x0 := (⟨x0.fCode, a26⟩ : l1Src)) (x1 := 2) (hide_olds _ _) hF108 hFn109 hFl110 (HMh111.rdo hwo hp0_0) h106)) ?_
    rintro _ w113 ⟨rfl, hn⟩
    replace HM := hcl112 _ _ _ rfl hn
    refine oy rfl (ex_add rfl rfl rfl) (oM rfl (ops_nil (at_then (run_block ?_))))
    replace HM := ((HM.empty kOut 68 none).fr1 4 rfl).fr1 4 rfl
    replace HM := (HM.fr1 4 rfl).fr1 4 rfl
    refine run_loop (fun k_ ρ_ w_ => ∃ a16 : Int, ∃ v114 : Value, ∃ a17 : List Out, ∃ a18 : Int, spec_l3Draw.l1 x0 k_ a16 a17 a18 = some o103 ∧ ρ_ = [(0, pA b0 0), (2, pA b32 0), (3, pA b44 0), (6, nI a18)] ∧ Mem w X w_ [box b0 78 [p0_0, nI a16], box b32 28 [nI 0, nI 0, .slice none 0 0, .slice none 0 0], box b44 28 [nI t21.1, nI a24, v61, v114], own kRef 38 v61 a27, own kOut 68 v114 a17]) k ⟨_, _, _, _, ho104, rfl, HM⟩ (Sub.of rfl) ?_
    clear HM ho104
    rintro k115 _ w116 ⟨a16, v114, a17, a18, ho104, rfl, HM⟩
    obtain _ | k115 := k115
    ·exact nomatch ((spec_l3Draw.l1.eq_1 x0 a16 a17 a18).symm.trans ho104)
    replace ho104 := (spec_l3Draw.l1.eq_2 ..).symm.trans ho104
    refine run_seq (run_seq (run_region rfl (oM rfl (oy rfl (ex_gtr rfl rfl rfl) (ops_nil (at_then (run_cond (b := (decide (0 < a18))) rfl (fun hb117 => ?_) (fun hb117 => ?_))))))))
    ·replace ho104 := cond_t hb117 ho104
     refine run_skip (at_then (run_seq (run_block ?_)))
     obtain ⟨t19, h118, ho104⟩ := bind_some ho104
     obtain ⟨t20, h119, ho104⟩ := bind_some ho104
     obtain ⟨e120, ho104⟩ := chk_some ho104
     refine run_meet (fun ρ_ w_ => ∃ v121 : Value, ρ_ = [(0, pA b0 0), (2, pA b32 0), (3, pA b44 0), (6, nI a18)] ∧ Mem w X w_ [box b0 78 [p0_0, nI t20.2], box b32 28 [nI 0, nI 0, .slice none 0 0, .slice none 0 0], box b44 28 [nI t21.1, nI a24, v61, v121], own kRef 38 v61 a27, own kOut 68 v121 (a17 ++ ([(⟨wrap64 (100 + t19.1), (⟨t20.1.fKeys, t20.1.fNeed, t20.1.fAfter⟩ : Rule)⟩ : Out)] : List Out))]) ?_ ?_
     ·replace HM := ((HM.fr1 4 rfl).fr1 3 rfl).fr1 2 rfl
      refine run_draw (fun w_ => Mem w X w_ [box b32 28 [nI 0, nI 0, .slice none 0 0, .slice none 0 0], own kRef 38 v61 a27]) mixed rfl (l := #[false, false, false, false, false, false, false, false, false, false, false, false]) rfl ?_
      replace HM := HM.grow (fr_drew _)
      have hS := HM.sufN 3 rfl
      refine drw_cut1 (l' := #[true, true, true, true, true, true, true, true, true, false, false, false]) (f' := 3) (fun (v122 : Value) => [(0, pA b0 0), (2, pA b32 0), (3, pA b44 0), (6, nI a18), (50, v114), (57, v122)]) (fun (v122 : Value) => fun w_ => Mem w X w_ [own kOut 68 v122 ([(⟨wrap64 (100 + t19.1), (⟨t20.1.fKeys, t20.1.fNeed, t20.1.fAfter⟩ : Rule)⟩ : Out)] : List Out), box b0 78 [p0_0, nI t20.2], box b44 28 [nI t21.1, nI a24, v61, v114], own kOut 68 v114 a17, box b32 28 [nI 0, nI 0, .slice none 0 0, .slice none 0 0], own kRef 38 v61 a27]) ?_ (fun K123 => ?_)
      ·rintro v122 w124 HM
       have hS := HM.sufN 4 rfl
       replace HM := HM.fr1 3 rfl
       refine drw_any [9] (by kernel_rfl) rfl (.cons ?_ .nil)
       refine br_does (l' := #[true, true, true, true, true, true, true, true, true, true, false, false]) rfl (guard_none rfl) rfl rfl (by kernel_rfl) (does_append kOut rfl rfl rfl U26 tsz68 rfl tby68 tz68 rfl rfl (leB_le e120) HM) ?_
       rintro v121 w125 HM
       have hS := HM.sufN 3 rfl
       refine ⟨hS, (dt 10 #[true, true, true, true, true, true, true, true, true, true, true, false] rfl rfl rfl rfl (by kernel_rfl) (ex_fieldAddr (off' := 3) rfl rfl U28 rfl tsz26 rfl) hS ?_)⟩
       replace HM := HM.fr1 2 rfl
       refine drw_any [11] (by kernel_rfl) rfl (.cons ?_ .nil)
       refine br_doesS (l' := #[true, true, true, true, true, true, true, true, true, true, true, true]) rfl (guard_none rfl) rfl (by kernel_rfl) (does_store (vs := [v121]) (cs' := [nI t21.1, nI a24, v61, v121]) rfl rfl rfl (rd_cells (HM.own_rd 1 rfl)) tsz26 (Ones.rd (HM.own_rd 1 rfl) Ones.nil) rfl rfl HM) ?_
       rintro w126 HM
       have hS := HM.sufN 3 rfl
       refine ⟨hS, (drw_done (by kernel_rfl) ?_)⟩
       replace HM := ((HM.fr1 1 rfl).fr1 4 rfl).fr1 2 rfl
       replace HM := (HM.fr1 4 rfl).fr1 4 rfl
       exact at_meet _ ⟨_, rfl, HM⟩ (Sub.of rfl)
      refine drw_cut1 (l' := #[true, true, true, true, true, true, true, true, false, false, false, false]) (f' := 4) (fun (u127 : Value) => [(0, pA b0 0), (2, pA b32 0), (3, pA b44 0), (6, nI a18), (50, v114), (56, .agg #[(nI (wrap64 (100 + t19.1))), u127, (nI t20.1.fNeed), (nI t20.1.fAfter)])]) (fun (u127 : Value) => fun w_ => Mem w X w_ [own kInt 2 u127 t20.1.fKeys, box b0 78 [p0_0, nI t20.2], box b44 28 [nI t21.1, nI a24, v61, v114], own kOut 68 v114 a17, box b32 28 [nI 0, nI 0, .slice none 0 0, .slice none 0 0], own kRef 38 v61 a27]) ?_ (fun K128 => ?_)
      ·rintro u127 w129 HM
       have hS := HM.sufN 4 rfl
       refine drw_any [8] (by kernel_rfl) rfl (.cons ?_ .nil)
       refine br_does (l' := #[true, true, true, true, true, true, true, true, true, false, false, false]) rfl (guard_none rfl) rfl rfl (by kernel_rfl) (does_lit (e := 68) (cs := [(nI (wrap64 (100 + t19.1))), u127, (nI t20.1.fNeed), (nI t20.1.fAfter)]) (xs := ([(⟨wrap64 (100 + t19.1), (⟨t20.1.fKeys, t20.1.fNeed, t20.1.fAfter⟩ : Rule)⟩ : Out)] : List Out)) kOut rfl rfl (fun _ => by kernel_rfl) rfl rfl (fun _ _ h => by have := Elems.cons (d := kOut) (x := (⟨wrap64 (100 + t19.1), (⟨t20.1.fKeys, t20.1.fNeed, t20.1.fAfter⟩ : Rule)⟩ : Out)) ⟨_, rfl, h⟩ .nil; rw [List.append_nil, List.append_nil] at this; exact this) HM) ?_
       rintro v122 w130 HM
       have hS := HM.sufN 4 rfl
       exact ⟨hS, (drw_sub (K123 v122 _ HM) (Sub.of rfl))⟩
      refine drw_cut0 (l' := #[true, true, true, true, true, true, false, false, false, false, false, false]) (f' := 6) ([(0, pA b0 0), (2, pA b32 0), (3, pA b44 0), (6, nI a18), (54, pA b0 0), (50, v114), (53, nI (wrap64 (100 + t19.1)))]) (fun w_ => Mem w X w_ [box b0 78 [p0_0, nI t19.2], box b44 28 [nI t21.1, nI a24, v61, v114], own kOut 68 v114 a17, box b32 28 [nI 0, nI 0, .slice none 0 0, .slice none 0 0], own kRef 38 v61 a27]) ?_ (fun K131 => ?_)
      ·rintro w132 HM
       have hS := HM.sufN 3 rfl
       obtain ⟨F133, hF134, hFn135, hFl136, HMh137, hcl138⟩ := HM.hideN 1 rfl
       refine drw_any [6] (by kernel_rfl) rfl (.cons ?_ .nil)
       refine br_does (l' := #[true, true, true, true, true, true, true, false, false, false, false, false]) rfl (guard_none rfl) rfl rfl (by kernel_rfl) (does_callk rfl callok106 rfl (spec_l2Draw.calls (x0 := (⟨x0.fCode, t19.2⟩ : l1Src)) (hide_olds _ _) hF134 hFn135 hFl136 (HMh137.rdo hwo hp0_0) h119)) ?_
       rintro _ w139 ⟨u127, rfl, hn⟩
       replace HM := hcl138 _ _ _ rfl hn
       have hS := HM.sufN 4 rfl
       refine ⟨hS, (dt 7 #[true, true, true, true, true, true, true, true, false, false, false, false] rfl rfl rfl rfl (by kernel_rfl) (ex_build1 (fun u127 => [(0, nI (wrap64 (100 + t19.1))), (1, .agg #[u127, (nI t20.1.fNeed), (nI t20.1.fAfter)])]) (fun u127 => #[nI (wrap64 (100 + t19.1)), u127, nI t20.1.fNeed, nI t20.1.fAfter]) rfl rfl (fun _ _ _ => by kernel_rfl) (HM.own_rd 0 rfl).isSl) hS ?_)⟩
       exact drw_sub (K128 u127 _ HM) (Sub.of rfl)
      refine dt 0 #[true, false, false, false, false, false, false, false, false, false, false, false] rfl rfl rfl rfl (by kernel_rfl) (ex_fieldAddr (off' := 3) rfl rfl U28 rfl tsz26 rfl) hS ?_
      refine dt 2 #[true, false, true, false, false, false, false, false, false, false, false, false] rfl rfl rfl rfl (by kernel_rfl) (ex_move rfl rfl) hS ?_
      refine dt 5 #[true, false, true, false, false, true, false, false, false, false, false, false] rfl rfl rfl rfl (by kernel_rfl) (ex_move rfl rfl) hS ?_
      refine drw_any [1, 3] (by kernel_rfl) rfl (.cons ?_ (.cons ?_ .nil))
      ·refine br_does (l' := #[true, true, true, false, false, true, false, false, false, false, false, false]) rfl (guard_none rfl) rfl rfl (by kernel_rfl) (does_ex' (ex_load1 rfl rfl U26 rfl ((HM.box_at 1 rfl) 3 _ rfl))) ?_
       rintro _ _ ⟨rfl, rfl⟩
       refine ⟨hS, ?_⟩
       obtain ⟨F140, hF141, hFn142, hFl143, HMh144, hcl145⟩ := HM.hideN 1 rfl
       refine drw_any [3] (by kernel_rfl) rfl (.cons ?_ .nil)
       refine br_does (l' := #[true, true, true, true, false, true, false, false, false, false, false, false]) rfl (guard_none rfl) rfl rfl (by kernel_rfl) (does_callk rfl callok16 rfl (spec_l1Next.calls (x0 := (⟨x0.fCode, a16⟩ : l1Src)) (x1 := 99) (hide_olds _ _) hF141 hFn142 hFl143 (HMh144.rdo hwo hp0_0) h118)) ?_
       rintro _ w146 ⟨rfl, hn⟩
       replace HM := hcl145 _ _ _ rfl hn
       have hS := HM.sufN 3 rfl
       refine ⟨hS, (dt 4 #[true, true, true, true, true, true, false, false, false, false, false, false] rfl rfl rfl rfl (by kernel_rfl) (ex_add rfl rfl rfl) hS ?_)⟩
       exact drw_sub (K131 _ HM) (Sub.of rfl)
      ·obtain ⟨F140, hF141, hFn142, hFl143, HMh144, hcl145⟩ := HM.hideN 1 rfl
       refine br_does (l' := #[true, false, true, true, false, true, false, false, false, false, false, false]) rfl (guard_none rfl) rfl rfl (by kernel_rfl) (does_callk rfl callok16 rfl (spec_l1Next.calls (x0 := (⟨x0.fCode, a16⟩ : l1Src)) (x1 := 99) (hide_olds _ _) hF141 hFn142 hFl143 (HMh144.rdo hwo hp0_0) h118)) ?_
       rintro _ w147 ⟨rfl, hn⟩
       replace HM := hcl145 _ _ _ rfl hn
       have hS := HM.sufN 3 rfl
       refine ⟨hS, (dt 4 #[true, false, true, true, true, true, false, false, false, false, false, false] rfl rfl rfl rfl (by kernel_rfl) (ex_add rfl rfl rfl) hS ?_)⟩
       refine drw_any [1, 6] (by kernel_rfl) rfl (.cons ?_ (.cons ?_ .nil))
       ·refine br_does (l' := #[true, true, true, true, true, true, false, false, false, false, false, false]) rfl (guard_none rfl) rfl rfl (by kernel_rfl) (does_ex' (ex_load1 rfl rfl U26 rfl ((HM.box_at 1 rfl) 3 _ rfl))) ?_
        rintro _ _ ⟨rfl, rfl⟩
        exact ⟨hS, (drw_sub (K131 _ HM) (Sub.of rfl))⟩
       ·obtain ⟨F133, hF134, hFn135, hFl136, HMh137, hcl138⟩ := HM.hideN 1 rfl
        refine br_does (l' := #[true, false, true, true, true, true, true, false, false, false, false, false]) rfl (guard_none rfl) rfl rfl (by kernel_rfl) (does_callk rfl callok106 rfl (spec_l2Draw.calls (x0 := (⟨x0.fCode, t19.2⟩ : l1Src)) (hide_olds _ _) hF134 hFn135 hFl136 (HMh137.rdo hwo hp0_0) h119)) ?_
        rintro _ w148 ⟨u127, rfl, hn⟩
        replace HM := hcl138 _ _ _ rfl hn
        have hS := HM.sufN 4 rfl
        refine ⟨hS, (dt 7 #[true, false, true, true, true, true, true, true, false, false, false, false] rfl rfl rfl rfl (by kernel_rfl) (ex_build1 (fun u127 => [(0, nI (wrap64 (100 + t19.1))), (1, .agg #[u127, (nI t20.1.fNeed), (nI t20.1.fAfter)])]) (fun u127 => #[nI (wrap64 (100 + t19.1)), u127, nI t20.1.fNeed, nI t20.1.fAfter]) rfl rfl (fun _ _ _ => by kernel_rfl) (HM.own_rd 0 rfl).isSl) hS ?_)⟩
        refine drw_any [1, 8] (by kernel_rfl) rfl (.cons ?_ (.cons ?_ .nil))
        ·refine br_does (l' := #[true, true, true, true, true, true, true, true, false, false, false, false]) rfl (guard_none rfl) rfl rfl (by kernel_rfl) (does_ex' (ex_load1 rfl rfl U26 rfl ((HM.box_at 2 rfl) 3 _ rfl))) ?_
         rintro _ _ ⟨rfl, rfl⟩
         exact ⟨hS, (drw_sub (K128 u127 _ HM) (Sub.of rfl))⟩
        ·refine br_does (l' := #[true, false, true, true, true, true, true, true, true, false, false, false]) rfl (guard_none rfl) rfl rfl (by kernel_rfl) (does_lit (e := 68) (cs := [(nI (wrap64 (100 + t19.1))), u127, (nI t20.1.fNeed), (nI t20.1.fAfter)]) (xs := ([(⟨wrap64 (100 + t19.1), (⟨t20.1.fKeys, t20.1.fNeed, t20.1.fAfter⟩ : Rule)⟩ : Out)] : List Out)) kOut rfl rfl (fun _ => by kernel_rfl) rfl rfl (fun _ _ h => by have := Elems.cons (d := kOut) (x := (⟨wrap64 (100 + t19.1), (⟨t20.1.fKeys, t20.1.fNeed, t20.1.fAfter⟩ : Rule)⟩ : Out)) ⟨_, rfl, h⟩ .nil; rw [List.append_nil, List.append_nil] at this; exact this) HM) ?_
         rintro v122 w149 HM
         have hS := HM.sufN 4 rfl
         refine ⟨hS, (drw_any [1] (by kernel_rfl) rfl (.cons ?_ .nil))⟩
         refine br_does (l' := #[true, true, true, true, true, true, true, true, true, false, false, false]) rfl (guard_none rfl) rfl rfl (by kernel_rfl) (does_ex' (ex_load1 rfl rfl U26 rfl ((HM.box_at 2 rfl) 3 _ rfl))) ?_
         rintro _ _ ⟨rfl, rfl⟩
         exact ⟨hS, (drw_sub (K123 v122 _ HM) (Sub.of rfl))⟩
     ·rintro _ w150 ⟨v121, rfl, HM⟩
      exact at_block (at_then (run_region rfl (oM rfl (oy rfl (ex_sub rfl rfl rfl) (oM rfl (ops_nil (at_again k115 (Nat.lt_succ_self _) ⟨_, _, _, _, ho104, rfl, HM⟩ (Sub.of rfl))))))))
    ·replace ho104 := cond_f hb117 ho104
     exact run_exit (at_then_exit (at_then_exit (at_block_exit (at_mid ⟨_, _, _, (sj ho104), rfl, HM⟩ (Sub.of rfl)))))
   ·rintro _ w151 ⟨a29, v105, a30, rfl, rfl, HM⟩
    replace H := cur2_mk H
    refine run_seq (run_region rfl (oy rfl (ldN rfl rfl U28 rfl tsz28 ((HM.box_at 2 rfl).subL 0 4 rfl) rfl) ?_))
    replace HM := HM.fr1 1 rfl
    refine odS rfl rfl rfl (does_store (vs := [nI t21.1, nI a24, v61, v105]) (cs' := [nI t21.1, nI a24, v61, v105]) rfl rfl rfl rfl tsz28 (Ones.int (Ones.int (Ones.rd (HM.own_rd 3 rfl) (Ones.rd (HM.own_rd 4 rfl) Ones.nil)))) rfl rfl HM) ?_
    rintro w152 HM
    refine ops_nil (at_then (run_ret ?_))
    replace HM := ((HM.frd 2 rfl).fr1 1 rfl).fr1 3 rfl
    replace HM := (HM.fr1 3 rfl).fr1 3 rfl
    have hcb0 := HM.box_at 0 rfl
    replace HM := HM.frd 0 rfl
    cases H
    exact at_retN rfl rfl U28 rfl tsz28 rfl hcb0 ⟨_, rfl, _, _, rfl, HM⟩
end Go.Proofs.YtecgbhfgkkpmhacGreat.Zk
