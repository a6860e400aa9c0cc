/- What functions of the program compute, each as a plain function, and that they do. Conditions: as each theorem states them. -/
import Derived.Test.YtecgbhfgkkpmhacGreatFnUndosZkF0
namespace Go.Proofs.YtecgbhfgkkpmhacGreat.Zk
open Go Go.RowKit Go.IntWalk Go.Proofs
set_option linter.unusedVariables false
set_option linter.unusedSimpArgs false
set_option maxRecDepth 100000
set_option maxHeartbeats 4000000
def spec_l4DrawOuts.l0 (x0 : l1Src) : Nat → Int → (List Out) → Int → Option (Int × (List Out))
 | 0, _, _, _ => none
 | k + 1, a10, a11, a12 => (bif (decide (0 < a12)) then ((spec_l1Next.f k (⟨x0.fCode, a10⟩ : l1Src) 300).bind fun t13 => ((spec_l2Draw.f k (⟨x0.fCode, t13.2⟩ : l1Src)).bind fun t14 => (chk (leB ((a11.length + ([(⟨wrap64 (1 + t13.1), (⟨t14.1.fKeys, t14.1.fNeed, t14.1.fAfter⟩ : Rule)⟩ : Out)] : List Out).length) * 48) 140737488355328) (spec_l4DrawOuts.l0 x0 k t14.2 (a11 ++ ([(⟨wrap64 (1 + t13.1), (⟨t14.1.fKeys, t14.1.fNeed, t14.1.fAfter⟩ : Rule)⟩ : Out)] : List Out)) (wrap64 (a12 - 1)))))) else some (a10, a11))
def spec_l4DrawOuts.f (k : Nat) (x0 : l1Src) : Option ((List Out) × Int) := (((spec_l1Next.f k x0 4).bind fun t15 => spec_l4DrawOuts.l0 x0 k t15.2 ([] : List Out) t15.1).bind (cur2 (fun a16 a17 => some (a17, a16))))
theorem spec_l4DrawOuts.calls {k : Nat} {x0 : l1Src} {b0 : Nat} {p0_0 : Value} {w wo : World} {X : List Nat} (hwo : Olds wo w X) (hX : Hold w [box b0 78 [p0_0, nI x0.fAt]] X) (hXn : X.Nodup) (hXl : ∀ b ∈ X, b < w.heap.size) (hp0_0 : RdS kU8 wo p0_0 x0.fCode) {r : (List Out) × Int} (H : spec_l4DrawOuts.f k x0 = some r) :
  Calls Tryz.prog 104 ([pA b0 0] : List Value).toArray w (fun e w_ => ∃ v, e = .returned v ∧ ∃ u0 : Value, v = u0 ∧ Mem w X w_ [own kOut 68 u0 r.1, box b0 78 [p0_0, nI r.2]]) := by
 have HM := Mem.startX hX hXn hXl
 refine calls_run (N := 22) Tryz.func104 rfl rfl rfl rfl ?_
 unfold spec_l4DrawOuts.f at H
 refine run_seq (run_region rfl (oM rfl (ops_nil (at_then (run_seq (run_region rfl (oz rfl (does_lit (e := 68) (cs := []) (xs := ([] : List Out)) kOut rfl rfl (fun _ => by kernel_rfl) rfl rfl (fun _ _ h => by have h' : _ = [] := h; subst h'; exact .nil) HM.emp) ?_)))))))
 rintro v18 w19 HM
 refine oM rfl (ops_nil (at_then ?_))
 obtain ⟨o20, ho21, H⟩ := bind_some H
 refine run_mid (fun ρ_ w_ => ∃ a16 : Int, ∃ v22 : Value, ∃ a17 : List Out, (a16, a17) = o20 ∧ ρ_ = [(3, v22)] ∧ Mem w X w_ [box b0 78 [p0_0, nI a16], own kOut 68 v22 a17]) ?_ ?_
 ·clear H
  refine run_seq ?_
  obtain ⟨t15, h23, ho21⟩ := bind_some ho21
  refine run_region rfl (oM rfl ?_)
  replace HM := HM.fr1 1 rfl
  obtain ⟨F24, hF25, hFn26, hFl27, HMh28, hcl29⟩ := HM.hideN 1 rfl
  refine oz rfl (does_callk rfl callok16 rfl (spec_l1Next.calls (x0 := x0) (x1 := 4) (hide_olds _ _) hF25 hFn26 hFl27 (HMh28.rdo hwo hp0_0) h23)) ?_
  rintro _ w30 ⟨rfl, hn⟩
  replace HM := hcl29 _ _ _ rfl hn
  refine oM rfl (ops_nil (at_then (run_block ?_)))
  refine run_loop (fun k_ ρ_ w_ => ∃ a10 : Int, ∃ v31 : Value, ∃ a11 : List Out, ∃ a12 : Int, spec_l4DrawOuts.l0 x0 k_ a10 a11 a12 = some o20 ∧ ρ_ = [(0, pA b0 0), (3, v31), (4, nI a12)] ∧ Mem w X w_ [box b0 78 [p0_0, nI a10], own kOut 68 v31 a11]) k ⟨_, _, _, _, ho21, rfl, HM⟩ (Sub.of rfl) ?_
  clear HM ho21
  rintro k32 _ w33 ⟨a10, v31, a11, a12, ho21, rfl, HM⟩
  obtain _ | k32 := k32
  ·exact nomatch ((spec_l4DrawOuts.l0.eq_1 x0 a10 a11 a12).symm.trans ho21)
  replace ho21 := (spec_l4DrawOuts.l0.eq_2 ..).symm.trans ho21
  refine run_seq (run_seq (run_region rfl (oM rfl (oy rfl (ex_gtr rfl rfl rfl) (ops_nil (at_then (run_cond (b := (decide (0 < a12))) rfl (fun hb34 => ?_) (fun hb34 => ?_))))))))
  ·replace ho21 := cond_t hb34 ho21
   refine run_skip (at_then (run_seq (run_block ?_)))
   obtain ⟨t13, h35, ho21⟩ := bind_some ho21
   obtain ⟨t14, h36, ho21⟩ := bind_some ho21
   obtain ⟨e37, ho21⟩ := chk_some ho21
   refine run_region rfl (oM rfl (oM rfl ?_))
   obtain ⟨F38, hF39, hFn40, hFl41, HMh42, hcl43⟩ := HM.hideN 1 rfl
   refine oz rfl (does_callk rfl callok16 rfl (spec_l1Next.calls (x0 := (⟨x0.fCode, a10⟩ : l1Src)) (x1 := 300) (hide_olds _ _) hF39 hFn40 hFl41 (HMh42.rdo hwo hp0_0) h35)) ?_
   rintro _ w44 ⟨rfl, hn⟩
   replace HM := hcl43 _ _ _ rfl hn
   refine oy rfl (ex_add rfl rfl rfl) (oM rfl ?_)
   obtain ⟨F45, hF46, hFn47, hFl48, HMh49, hcl50⟩ := HM.hideN 1 rfl
   refine oz rfl (does_callk rfl callok106 rfl (spec_l2Draw.calls (x0 := (⟨x0.fCode, t13.2⟩ : l1Src)) (hide_olds _ _) hF46 hFn47 hFl48 (HMh49.rdo hwo hp0_0) h36)) ?_
   rintro _ w51 ⟨u52, rfl, hn⟩
   replace HM := hcl50 _ _ _ rfl hn
   refine oy rfl (ex_build1 (fun u52 => [(0, nI (wrap64 (1 + t13.1))), (1, .agg #[u52, (nI t14.1.fNeed), (nI t14.1.fAfter)])]) (fun u52 => #[nI (wrap64 (1 + t13.1)), u52, nI t14.1.fNeed, nI t14.1.fAfter]) rfl rfl (fun _ _ _ => by kernel_rfl) (HM.own_rd 0 rfl).isSl) ?_
   refine oz rfl (does_lit (e := 68) (cs := [(nI (wrap64 (1 + t13.1))), u52, (nI t14.1.fNeed), (nI t14.1.fAfter)]) (xs := ([(⟨wrap64 (1 + t13.1), (⟨t14.1.fKeys, t14.1.fNeed, t14.1.fAfter⟩ : Rule)⟩ : Out)] : List Out)) kOut rfl rfl (fun _ => by kernel_rfl) rfl rfl (fun _ _ h => by have := Elems.cons (d := kOut) (x := (⟨wrap64 (1 + t13.1), (⟨t14.1.fKeys, t14.1.fNeed, t14.1.fAfter⟩ : Rule)⟩ : Out)) ⟨_, rfl, h⟩ .nil; rw [List.append_nil, List.append_nil] at this; exact this) HM) ?_
   rintro v53 w54 HM
   replace HM := HM.fr1 2 rfl
   refine oz rfl (does_append kOut rfl rfl rfl U26 tsz68 rfl tby68 tz68 rfl rfl (leB_le e37) HM) ?_
   rintro v55 w56 HM
   refine oM rfl (ops_nil (at_block (at_then (run_region rfl (oM rfl (oy rfl (ex_sub rfl rfl rfl) (oM rfl (ops_nil ?_))))))))
   replace HM := HM.fr1 1 rfl
   exact at_again k32 (Nat.lt_succ_self _) ⟨_, _, _, _, ho21, rfl, HM⟩ (Sub.of rfl)
  ·replace ho21 := cond_f hb34 ho21
   exact run_exit (at_then_exit (at_then_exit (at_block_exit (at_mid ⟨_, _, _, (sj ho21), rfl, HM⟩ (Sub.of rfl)))))
 ·rintro _ w57 ⟨a16, v22, a17, rfl, rfl, HM⟩
  replace H := cur2_mk H
  refine run_seq (run_region rfl (oM rfl (oM rfl (ops_nil (at_then (run_ret ?_))))))
  replace HM := HM.fr1 1 rfl
  cases H
  exact at_ret1 rfl rfl ⟨_, rfl, _, rfl, HM⟩

def spec_l1Chance.f (k : Nat) (x0 : l1Src) (x1 : Int) : Option (Bool × Int) := ((spec_l1Next.f k x0 x1).bind fun t10 => some ((t10.1 == 0), t10.2))
theorem spec_l1Chance.calls {k : Nat} {x0 : l1Src} {x1 : Int} {b0 : Nat} {p0_0 : Value} {w wo : World} {X : List Nat} (hwo : Olds wo w X) (hX : Hold w [box b0 78 [p0_0, nI x0.fAt]] X) (hXn : X.Nodup) (hXl : ∀ b ∈ X, b < w.heap.size) (hp0_0 : RdS kU8 wo p0_0 x0.fCode) {r : Bool × Int} (H : spec_l1Chance.f k x0 x1 = some r) :
  Calls Tryz.prog 75 ([pA b0 0, nI x1] : List Value).toArray w (fun e w_ => ∃ v, e = .returned v ∧ v = (.bool r.1) ∧ Mem w X w_ [box b0 78 [p0_0, nI r.2]]) := by
 have HM := Mem.startX hX hXn hXl
 refine calls_run (N := 9) Tryz.func75 rfl rfl rfl rfl ?_
 unfold spec_l1Chance.f at H
 refine run_seq (run_region rfl (oM rfl (ops_nil (at_then (run_seq ?_)))))
 obtain ⟨t10, h11, H⟩ := bind_some H
 refine run_region rfl (oM rfl (oM rfl ?_))
 obtain ⟨F12, hF13, hFn14, hFl15, HMh16, hcl17⟩ := HM.hideN 1 rfl
 refine oz rfl (does_callk rfl callok16 rfl (spec_l1Next.calls (x0 := x0) (x1 := x1) (hide_olds _ _) hF13 hFn14 hFl15 (HMh16.rdo hwo hp0_0) h11)) ?_
 rintro _ w18 ⟨rfl, hn⟩
 replace HM := hcl17 _ _ _ rfl hn
 refine oy rfl (ex_eql rfl rfl rfl) (oM rfl (ops_nil (at_then (run_ret ?_))))
 cases H
 exact at_ret1 rfl rfl ⟨_, rfl, rfl, HM⟩

def spec_l1In.f (k : Nat) (x0 : Int) (x1 : Int) (x2 : Int) : Option Bool := some ((decide (x1 ≤ x0)) && (decide (x0 ≤ x2)))
theorem spec_l1In.calls {k : Nat} {x0 : Int} {x1 : Int} {x2 : Int}  {w : World}  {r : Bool} (H : spec_l1In.f k x0 x1 x2 = some r) :
  Calls Tryz.prog 50 ([nI x0, nI x1, nI x2] : List Value).toArray w (fun e w_ => ∃ v, e = .returned v ∧ v = (.bool r) ∧ Mem w [] w_ []) := by
 have HM := Mem.start w
 refine calls_run (N := 15) Tryz.func50 rfl rfl rfl rfl ?_
 unfold spec_l1In.f at H
 refine run_seq (run_region rfl (oM rfl (ops_nil (at_then (run_seq ?_)))))
 refine run_meet (fun ρ_ w_ => ρ_ = [(6, .bool ((decide (x1 ≤ x0)) && (decide (x0 ≤ x2))))] ∧ Mem w [] w_ []) ?_ ?_
 ·refine run_region rfl (oM rfl (oM rfl (oy rfl (ex_geq rfl rfl rfl) (oM rfl ?_))))
  refine bool_cases (decide (x1 ≤ x0)) (fun hg10 => ?_) (fun hg10 => ?_)
  ·exact gn rfl hg10 (ex_move rfl rfl) (gn rfl hg10 (ex_move rfl rfl) (gn rfl hg10 (ex_leq rfl rfl rfl) (ops_ex (v := .bool ((decide (x1 ≤ x0)) && (decide (x0 ≤ x2)))) rfl (guard_none rfl) rfl rfl (ex_pand_t rfl rfl hg10 rfl) (oM rfl (ops_nil (at_meet _ ⟨rfl, HM⟩ (Sub.of rfl)))))))
  ·refine gf rfl hg10 (gf rfl hg10 (gf rfl hg10 ?_))
   have hg11 : ((decide (x1 ≤ x0)) && (decide (x0 ≤ x2))) = false := by simp only [hg10, Bool.and_true, Bool.true_and, Bool.and_false, Bool.false_and, Bool.or_true, Bool.true_or, Bool.or_false, Bool.false_or, Bool.not_true, Bool.not_false, Bool.not_not]
   exact ops_ex (v := .bool ((decide (x1 ≤ x0)) && (decide (x0 ≤ x2)))) rfl (guard_none rfl) rfl rfl (ex_pand_f rfl rfl hg10) (oM rfl (ops_nil (at_meet _ ⟨rfl, HM⟩ (Sub.of rfl))))
 ·rintro _ w12 ⟨rfl, HM⟩
  refine at_then (run_ret ?_)
  cases H
  exact at_ret1 rfl rfl ⟨_, rfl, rfl, HM⟩

def spec_l3Ref.f (k : Nat) (x0 : Ref) : Option Bool := ((spec_l1In.f k x0.fTx 1 60).bind fun t10 => ((bif t10 then spec_l1In.f k x0.fAt 0 3 else some default).bind fun t11 => some (t10 && t11)))
theorem spec_l3Ref.calls {k : Nat} {x0 : Ref}  {w : World}  {r : Bool} (H : spec_l3Ref.f k x0 = some r) :
  Calls Tryz.prog 84 ([.agg #[(nI x0.fTx), (nI x0.fAt)]] : List Value).toArray w (fun e w_ => ∃ v, e = .returned v ∧ v = (.bool r) ∧ Mem w [] w_ []) := by
 have HM := Mem.start w
 refine calls_run (N := 11) Tryz.func84 rfl rfl rfl rfl ?_
 unfold spec_l3Ref.f at H
 refine run_seq (run_region rfl (oz rfl (does_box (cs := [nI x0.fTx, nI x0.fAt]) rfl rfl rfl HM) ?_))
 rintro _ w12 ⟨b13, rfl, HM⟩
 refine oM rfl (ops_nil (at_then (run_seq ?_)))
 obtain ⟨t10, h14, H⟩ := bind_some H
 obtain ⟨t11, h15, H⟩ := bind_some H
 refine run_meet (fun ρ_ w_ => ρ_ = [(2, .bool (t10 && t11))] ∧ Mem w [] w_ []) ?_ ?_
 ·refine run_region rfl (oy rfl (ex_fieldAddr (off' := 0) rfl rfl U38 rfl tsz2 rfl) (oy rfl (ex_load1 rfl rfl U2 rfl ((HM.box_at 0 rfl) 0 _ rfl)) (oz rfl (does_callk rfl callok50 rfl (spec_l1In.calls (x0 := x0.fTx) (x1 := 1) (x2 := 60) h14)) ?_)))
  rintro _ w16 ⟨rfl, hn⟩
  replace HM := HM.callN hn rfl
  refine oM rfl ?_
  refine bool_cases t10 (fun hg17 => ?_) (fun hg17 => ?_)
  ·refine gn rfl hg17 (ex_fieldAddr (off' := 1) rfl rfl U38 rfl tsz2 rfl) (gn rfl hg17 (ex_load1 rfl rfl U2 rfl ((HM.box_at 0 rfl) 1 _ rfl)) (ops_does rfl (guard_on rfl rfl rfl hg17) rfl rfl (does_callk rfl callok50 rfl (spec_l1In.calls (x0 := x0.fAt) (x1 := 0) (x2 := 3) (cond_t hg17 h15))) ?_))
   rintro _ w18 ⟨rfl, hn⟩
   replace HM := HM.callN hn rfl
   refine ops_ex (v := .bool (t10 && t11)) rfl (guard_none rfl) rfl rfl (ex_pand_t rfl rfl hg17 rfl) (oM rfl (ops_nil ?_))
   replace HM := HM.frd 0 rfl
   exact at_meet _ ⟨rfl, HM⟩ (Sub.of rfl)
  ·refine gf rfl hg17 (gf rfl hg17 (gf rfl hg17 ?_))
   have hg19 : (t10 && t11) = false := by simp only [hg17, Bool.and_true, Bool.true_and, Bool.and_false, Bool.false_and, Bool.or_true, Bool.true_or, Bool.or_false, Bool.false_or, Bool.not_true, Bool.not_false, Bool.not_not]
   refine ops_ex (v := .bool (t10 && t11)) rfl (guard_none rfl) rfl rfl (ex_pand_f rfl rfl hg17) (oM rfl (ops_nil ?_))
   replace HM := HM.frd 0 rfl
   exact at_meet _ ⟨rfl, HM⟩ (Sub.of rfl)
 ·rintro _ w20 ⟨rfl, HM⟩
  refine at_then (run_ret ?_)
  cases H
  exact at_ret1 rfl rfl ⟨_, rfl, rfl, HM⟩

def spec_l2Height.f (k : Nat) (x0 : Int) : Option Bool := ((spec_l1In.f k x0 0 999).bind fun t10 => some t10)
theorem spec_l2Height.calls {k : Nat} {x0 : Int}  {w : World}  {r : Bool} (H : spec_l2Height.f k x0 = some r) :
  Calls Tryz.prog 51 ([nI x0] : List Value).toArray w (fun e w_ => ∃ v, e = .returned v ∧ v = (.bool r) ∧ Mem w [] w_ []) := by
 have HM := Mem.start w
 refine calls_run (N := 5) Tryz.func51 rfl rfl rfl rfl ?_
 unfold spec_l2Height.f at H
 refine run_seq (run_region rfl (oM rfl (ops_nil (at_then (run_seq ?_)))))
 obtain ⟨t10, h11, H⟩ := bind_some H
 refine run_region rfl (oM rfl (oz rfl (does_callk rfl callok50 rfl (spec_l1In.calls (x0 := x0) (x1 := 0) (x2 := 999) h11)) ?_))
 rintro _ w12 ⟨rfl, hn⟩
 replace HM := HM.callN hn rfl
 refine oM rfl (ops_nil (at_then (run_ret ?_)))
 cases H
 exact at_ret1 rfl rfl ⟨_, rfl, rfl, HM⟩

def spec_l1Key.f (k : Nat) (x0 : Int) : Option Bool := ((spec_l1In.f k x0 1 999).bind fun t10 => some t10)
theorem spec_l1Key.calls {k : Nat} {x0 : Int}  {w : World}  {r : Bool} (H : spec_l1Key.f k x0 = some r) :
  Calls Tryz.prog 86 ([nI x0] : List Value).toArray w (fun e w_ => ∃ v, e = .returned v ∧ v = (.bool r) ∧ Mem w [] w_ []) := by
 have HM := Mem.start w
 refine calls_run (N := 5) Tryz.func86 rfl rfl rfl rfl ?_
 unfold spec_l1Key.f at H
 refine run_seq (run_region rfl (oM rfl (ops_nil (at_then (run_seq ?_)))))
 obtain ⟨t10, h11, H⟩ := bind_some H
 refine run_region rfl (oM rfl (oz rfl (does_callk rfl callok50 rfl (spec_l1In.calls (x0 := x0) (x1 := 1) (x2 := 999) h11)) ?_))
 rintro _ w12 ⟨rfl, hn⟩
 replace HM := HM.callN hn rfl
 refine oM rfl (ops_nil (at_then (run_ret ?_)))
 cases H
 exact at_ret1 rfl rfl ⟨_, rfl, rfl, HM⟩

def spec_l2Fault.l0 (x0 : Rule) : Nat → Int → Option (Int ⊕ Unit)
 | 0, _ => none
 | k + 1, a10 => (bif (decide (a10 < (x0.fKeys.length : Int))) then (chk (idxOk a10 x0.fKeys.length) ((spec_l1Key.f k (gt x0.fKeys a10)).bind fun t11 => (bif !t11 then some (.inl 3) else spec_l2Fault.l0 x0 k (wrap64 (a10 + 1))))) else some (.inr ()))
def spec_l2Fault.l1 (x0 : Rule) : Nat → Int → Option (Int ⊕ Unit)
 | 0, _ => none
 | k + 1, a12 => (bif (decide (a12 < (x0.fKeys.length : Int))) then (chk (idxOk a12 x0.fKeys.length) (chk (idxOk (wrap64 (a12 - 1)) x0.fKeys.length) (bif (decide ((gt x0.fKeys a12) ≤ (gt x0.fKeys (wrap64 (a12 - 1))))) then some (.inl 1) else spec_l2Fault.l1 x0 k (wrap64 (a12 + 1))))) else some (.inr ()))
def spec_l2Fault.f (k : Nat) (x0 : Rule) : Option Int := ((spec_l1In.f k (x0.fKeys.length : Int) 1 3).bind fun t13 => (bif !t13 then some 2 else ((spec_l2Fault.l0 x0 k 0).bind fun o14 => thn o14 (fun r => some r) (fun _ => ((spec_l1In.f k x0.fNeed 1 (x0.fKeys.length : Int)).bind fun t15 => ((bif (!(!t15)) then spec_l2Height.f k x0.fAfter else some default).bind fun t16 => (bif ((!t15) || (!t16)) then some 3 else ((spec_l2Fault.l1 x0 k 1).bind fun o17 => thn o17 (fun r => some r) (fun _ => some 0)))))))))
theorem spec_l2Fault.calls {k : Nat} {x0 : Rule} {b0 f0 : Nat} {p0_0 : Value} {w : World} (hc0 : CellsAt w b0 f0 [p0_0, nI x0.fNeed, nI x0.fAfter]) (hp0_0 : RdS kInt w p0_0 x0.fKeys) {r : Int} (H : spec_l2Fault.f k x0 = some r) :
  Calls Tryz.prog 90 ([pA b0 f0] : List Value).toArray w (fun e w_ => ∃ v, e = .returned v ∧ v = (nI r) ∧ Mem w [] w_ []) := by
 have HM := Mem.start w
 refine calls_run (N := 72) Tryz.func90 rfl rfl rfl rfl ?_
 unfold spec_l2Fault.f at H
 refine run_seq (run_region rfl (oM rfl (ops_nil (at_then (run_seq (run_region rfl (oM rfl (oy rfl (ex_nilCheck rfl rfl) (oy rfl (ex_fieldAddr (off' := f0) rfl rfl U66 rfl tsz58 rfl) (oy rfl (ex_load1 rfl rfl U58 rfl ((HM.at_ hc0) 0 _ rfl)) (oy rfl (ex_len (d := kInt) (xs := x0.fKeys) rfl rfl U58 hp0_0) ?_)))))))))))
 refine oM rfl (ops_nil (at_then (run_seq (run_seq ?_))))
 obtain ⟨t13, h18, H⟩ := bind_some H
 refine run_region rfl (oM rfl (oz rfl (does_callk rfl callok50 rfl (spec_l1In.calls (x0 := (x0.fKeys.length : Int)) (x1 := 1) (x2 := 3) h18)) ?_))
 rintro _ w19 ⟨rfl, hn⟩
 replace HM := HM.callN hn rfl
 refine oy rfl (ex_not rfl rfl) (ops_nil (at_then (run_cond (b := !t13) rfl (fun hb20 => ?_) (fun hb20 => ?_))))
 ·replace H := cond_t hb20 H
  refine run_seq (run_region rfl (oM rfl (ops_nil (at_then (run_ret (at_then_ret ?_))))))
  cases H
  exact at_ret1 rfl rfl ⟨_, rfl, rfl, HM⟩
 ·replace H := cond_f hb20 H
  refine run_skip (at_then ?_)
  obtain ⟨o14, ho21, H⟩ := bind_some H
  refine run_mid (fun ρ_ w_ => Sum.inr () = o14 ∧ ρ_ = [(0, pA b0 f0), (3, nI (x0.fKeys.length : Int))] ∧ Mem w [] w_ []) ?_ ?_
  ·refine run_seq (run_region rfl (oM rfl (ops_nil (at_then (run_block ?_)))))
   refine run_loop (fun k_ ρ_ w_ => ∃ a10 : Int, spec_l2Fault.l0 x0 k_ a10 = some o14 ∧ ρ_ = [(0, pA b0 f0), (3, nI (x0.fKeys.length : Int)), (4, nI a10)] ∧ Mem w [] w_ []) k ⟨_, ho21, rfl, HM⟩ (Sub.of rfl) ?_
   clear HM ho21
   rintro k22 _ w23 ⟨a10, ho21, rfl, HM⟩
   obtain _ | k22 := k22
   ·exact nomatch ((spec_l2Fault.l0.eq_1 x0 a10).symm.trans ho21)
   replace ho21 := (spec_l2Fault.l0.eq_2 ..).symm.trans ho21
   refine run_seq (run_seq (run_region rfl (oM rfl (oM rfl (oy rfl (ex_nilCheck rfl rfl) (oy rfl (ex_fieldAddr (off' := f0) rfl rfl U66 rfl tsz58 rfl) (oy rfl (ex_load1 rfl rfl U58 rfl ((HM.at_ hc0) 0 _ rfl)) (oy rfl (ex_len (d := kInt) (xs := x0.fKeys) rfl rfl U58 hp0_0) (oy rfl (ex_lss rfl rfl rfl) ?_)))))))))
   refine ops_nil (at_then (run_cond (b := (decide (a10 < (x0.fKeys.length : Int)))) rfl (fun hb24 => ?_) (fun hb24 => ?_)))
   ·replace ho21 := cond_t hb24 ho21
    refine run_skip (at_then (run_seq (run_block (run_seq ?_))))
    obtain ⟨e25, ho21⟩ := chk_some ho21
    obtain ⟨t11, h26, ho21⟩ := bind_some ho21
    refine run_region rfl (oM rfl (oy rfl (ex_nilCheck rfl rfl) (oy rfl (ex_fieldAddr (off' := f0) rfl rfl U66 rfl tsz58 rfl) (oy rfl (ex_load1 rfl rfl U58 rfl ((HM.at_ hc0) 0 _ rfl)) (oM rfl ?_)))))
    have hc27 : CellsAt _ (sb p0_0) (so p0_0 + (a10).toNat * 1) [(nI (gt x0.fKeys a10))] := rd_plain hp0_0 e25
    refine oy rfl (ex_indexAddr (d := kInt) rfl rfl rfl U58 tsz2 hp0_0 (idx_lo e25) (idx_hi e25)) (oy rfl (ex_load1 rfl rfl U2 rfl ((HM.at_ hc27) 0 _ rfl)) (oz rfl (does_callk rfl callok86 rfl (spec_l1Key.calls (x0 := (gt x0.fKeys a10)) h26)) ?_))
    rintro _ w28 ⟨rfl, hn⟩
    replace HM := HM.callN hn rfl
    refine oy rfl (ex_not rfl rfl) (ops_nil (at_then (run_cond (b := !t11) rfl (fun hb29 => ?_) (fun hb29 => ?_))))
    ·replace ho21 := cond_t hb29 ho21
     refine run_seq (run_region rfl (oM rfl (ops_nil (at_then (run_ret (at_block_ret (at_then_ret (at_then_ret (at_block_ret (at_then_ret ?_))))))))))
     cases ho21
     have hT := thn_inl H
     cases hT
     exact at_ret1 rfl rfl ⟨_, rfl, rfl, HM⟩
    ·replace ho21 := cond_f hb29 ho21
     exact run_skip (at_block (at_then (run_region rfl (oM rfl (oy rfl (ex_add rfl rfl rfl) (oM rfl (ops_nil (at_again k22 (Nat.lt_succ_self _) ⟨_, ho21, rfl, HM⟩ (Sub.of rfl)))))))))
   ·replace ho21 := cond_f hb24 ho21
    exact run_exit (at_then_exit (at_then_exit (at_block_exit (at_mid ⟨(sj ho21), rfl, HM⟩ (Sub.of rfl)))))
  ·rintro _ w30 ⟨rfl, rfl, HM⟩
   replace H := (thn_inr H)
   refine run_seq (run_seq ?_)
   obtain ⟨t15, h31, H⟩ := bind_some H
   obtain ⟨t16, h32, H⟩ := bind_some H
   refine run_meet (fun ρ_ w_ => ρ_ = [(0, pA b0 f0), (46, .bool ((!t15) || (!t16)))] ∧ Mem w [] w_ []) ?_ ?_
   ·refine run_region rfl (oM rfl (oy rfl (ex_nilCheck rfl rfl) (oy rfl (ex_fieldAddr (off' := f0 + 1) rfl rfl U66 rfl tsz2 rfl) (oy rfl (ex_load1 rfl rfl U2 rfl ((HM.at_ hc0) 1 _ rfl)) (oM rfl (oz rfl (does_callk rfl callok50 rfl (spec_l1In.calls (x0 := x0.fNeed) (x1 := 1) (x2 := (x0.fKeys.length : Int)) h31)) ?_))))))
    rintro _ w33 ⟨rfl, hn⟩
    replace HM := HM.callN hn rfl
    refine oy rfl (ex_not rfl rfl) (oM rfl ?_)
    refine bool_cases (!t15) (fun hg34 => ?_) (fun hg34 => ?_)
    ·refine gf rfl hg34 (gf rfl hg34 (gf rfl hg34 (gf rfl hg34 (gf rfl hg34 (gf rfl hg34 ?_)))))
     have hg35 : ((!t15) || (!t16)) = true := by simp only [hg34, Bool.and_true, Bool.true_and, Bool.and_false, Bool.false_and, Bool.or_true, Bool.true_or, Bool.or_false, Bool.false_or, Bool.not_true, Bool.not_false, Bool.not_not]
     exact ops_ex (v := .bool ((!t15) || (!t16))) rfl (guard_none rfl) rfl rfl (ex_por_t rfl rfl hg34) (ops_nil (at_meet _ ⟨rfl, HM⟩ (Sub.of rfl)))
    ·refine gn rfl hg34 (ex_move rfl rfl) (gn rfl hg34 (ex_nilCheck rfl rfl) (gn rfl hg34 (ex_fieldAddr (off' := f0 + 2) rfl rfl U66 rfl tsz2 rfl) (gn rfl hg34 (ex_load1 rfl rfl U2 rfl ((HM.at_ hc0) 2 _ rfl)) (ops_does rfl (guard_on rfl rfl rfl hg34) rfl rfl (does_callk rfl callok51 rfl (spec_l2Height.calls (x0 := x0.fAfter) (cond_t (not_mk hg34) h32))) ?_))))
     rintro _ w36 ⟨rfl, hn⟩
     replace HM := HM.callN hn rfl
     exact gn rfl hg34 (ex_not rfl rfl) (ops_ex (v := .bool ((!t15) || (!t16))) rfl (guard_none rfl) rfl rfl (ex_por_f rfl rfl hg34 rfl) (ops_nil (at_meet _ ⟨rfl, HM⟩ (Sub.of rfl))))
   ·rintro _ w37 ⟨rfl, HM⟩
    refine at_then (run_cond (b := ((!t15) || (!t16))) rfl (fun hb38 => ?_) (fun hb38 => ?_))
    ·replace H := cond_t hb38 H
     refine run_seq (run_region rfl (oM rfl (ops_nil (at_then (run_ret (at_then_ret ?_))))))
     cases H
     exact at_ret1 rfl rfl ⟨_, rfl, rfl, HM⟩
    ·replace H := cond_f hb38 H
     refine run_skip (at_then ?_)
     obtain ⟨o17, ho39, H⟩ := bind_some H
     refine run_mid (fun ρ_ w_ => Sum.inr () = o17 ∧ ρ_ = [] ∧ Mem w [] w_ []) ?_ ?_
     ·refine run_seq (run_region rfl (oM rfl (ops_nil (at_then (run_block ?_)))))
      refine run_loop (fun k_ ρ_ w_ => ∃ a12 : Int, spec_l2Fault.l1 x0 k_ a12 = some o17 ∧ ρ_ = [(0, pA b0 f0), (5, nI a12)] ∧ Mem w [] w_ []) k ⟨_, ho39, rfl, HM⟩ (Sub.of rfl) ?_
      clear HM ho39
      rintro k40 _ w41 ⟨a12, ho39, rfl, HM⟩
      obtain _ | k40 := k40
      ·exact nomatch ((spec_l2Fault.l1.eq_1 x0 a12).symm.trans ho39)
      replace ho39 := (spec_l2Fault.l1.eq_2 ..).symm.trans ho39
      refine run_seq (run_seq (run_region rfl (oM rfl (oM rfl (oy rfl (ex_nilCheck rfl rfl) (oy rfl (ex_fieldAddr (off' := f0) rfl rfl U66 rfl tsz58 rfl) (oy rfl (ex_load1 rfl rfl U58 rfl ((HM.at_ hc0) 0 _ rfl)) (oy rfl (ex_len (d := kInt) (xs := x0.fKeys) rfl rfl U58 hp0_0) (oy rfl (ex_lss rfl rfl rfl) ?_)))))))))
      refine ops_nil (at_then (run_cond (b := (decide (a12 < (x0.fKeys.length : Int)))) rfl (fun hb42 => ?_) (fun hb42 => ?_)))
      ·replace ho39 := cond_t hb42 ho39
       refine run_skip (at_then (run_seq (run_block (run_seq ?_))))
       obtain ⟨e43, ho39⟩ := chk_some ho39
       obtain ⟨e44, ho39⟩ := chk_some ho39
       refine run_drawf (fun w_ => Mem w [] w_ []) [(0, true), (1, true), (2, true), (3, true), (4, true), (5, true), (6, true), (7, true), (8, true), (9, true), (10, true), (11, true), (12, true), (13, true), (14, true), (15, true)] mixed rfl rfl (by kernel_rfl) ?_
       replace HM := HM.grow (fr_drew _)
       have hS := HM.sufN 0 rfl
       refine dp rfl rfl rfl rfl (ex_move rfl rfl) hS (dp rfl rfl rfl rfl (ex_nilCheck rfl rfl) hS (dp rfl rfl rfl rfl (ex_fieldAddr (off' := f0) rfl rfl U66 rfl tsz58 rfl) hS (drwp_take rfl (guard_none rfl) rfl rfl (fun w_ hS_ => (ex_load1 rfl rfl U58 rfl ((hS_.at_ hc0) 0 _ rfl))) hS (dp rfl rfl rfl rfl (ex_move rfl rfl) hS ?_))))
       have hc45 : CellsAt _ (sb p0_0) (so p0_0 + (a12).toNat * 1) [(nI (gt x0.fKeys a12))] := rd_plain hp0_0 e43
       refine dp rfl rfl rfl rfl (ex_indexAddr (d := kInt) rfl rfl rfl U58 tsz2 hp0_0 (idx_lo e43) (idx_hi e43)) hS (drwp_take rfl (guard_none rfl) rfl rfl (fun w_ hS_ => (ex_load1 rfl rfl U2 rfl ((hS_.at_ hc45) 0 _ rfl))) hS (dp rfl rfl rfl rfl (ex_move rfl rfl) hS (dp rfl rfl rfl rfl (ex_nilCheck rfl rfl) hS (dp rfl rfl rfl rfl (ex_fieldAddr (off' := f0) rfl rfl U66 rfl tsz58 rfl) hS (drwp_take rfl (guard_none rfl) rfl rfl (fun w_ hS_ => (ex_load1 rfl rfl U58 rfl ((hS_.at_ hc0) 0 _ rfl))) hS (dp rfl rfl rfl rfl (ex_move rfl rfl) hS (dp rfl rfl rfl rfl (ex_sub rfl rfl rfl) hS ?_)))))))
       have hc46 : CellsAt _ (sb p0_0) (so p0_0 + (wrap64 (a12 - 1)).toNat * 1) [(nI (gt x0.fKeys (wrap64 (a12 - 1))))] := rd_plain hp0_0 e44
       refine dp rfl rfl rfl rfl (ex_indexAddr (d := kInt) rfl rfl rfl U58 tsz2 hp0_0 (idx_lo e44) (idx_hi e44)) hS (drwp_take rfl (guard_none rfl) rfl rfl (fun w_ hS_ => (ex_load1 rfl rfl U2 rfl ((hS_.at_ hc46) 0 _ rfl))) hS (dp rfl rfl rfl rfl (ex_leq rfl rfl rfl) hS (drwp_done (at_then (run_cond (b := (decide ((gt x0.fKeys a12) ≤ (gt x0.fKeys (wrap64 (a12 - 1)))))) rfl (fun hb47 => ?_) (fun hb47 => ?_))))))
       ·replace ho39 := cond_t hb47 ho39
        refine run_seq (run_region rfl (oM rfl (ops_nil (at_then (run_ret (at_block_ret (at_then_ret (at_then_ret (at_block_ret (at_then_ret ?_))))))))))
        cases ho39
        have hT := thn_inl H
        cases hT
        exact at_ret1 rfl rfl ⟨_, rfl, rfl, HM⟩
       ·replace ho39 := cond_f hb47 ho39
        exact run_skip (at_block (at_then (run_region rfl (oM rfl (oy rfl (ex_add rfl rfl rfl) (oM rfl (ops_nil (at_again k40 (Nat.lt_succ_self _) ⟨_, ho39, rfl, HM⟩ (Sub.of rfl)))))))))
      ·replace ho39 := cond_f hb42 ho39
       exact run_exit (at_then_exit (at_then_exit (at_block_exit (at_mid ⟨(sj ho39), rfl, HM⟩ Sub.nil))))
     ·rintro _ w48 ⟨rfl, rfl, HM⟩
      replace H := (thn_inr H)
      refine run_seq (run_region rfl (oM rfl (ops_nil (at_then (run_ret ?_)))))
      cases H
      exact at_ret1 rfl rfl ⟨_, rfl, rfl, HM⟩

def spec_l4Out.f (k : Nat) (x0 : Out) : Option Int := ((spec_l1In.f k x0.fValue 1 1000000).bind fun t10 => (bif !t10 then some 3 else ((spec_l2Fault.f k x0.fRule).bind fun t11 => some t11)))
theorem spec_l4Out.calls {k : Nat} {x0 : Out} {b0 f0 : Nat} {p0_0 : Value} {w : World} (hc0 : CellsAt w b0 f0 [nI x0.fValue, p0_0, nI x0.fRule.fNeed, nI x0.fRule.fAfter]) (hp0_0 : RdS kInt w p0_0 x0.fRule.fKeys) {r : Int} (H : spec_l4Out.f k x0 = some r) :
  Calls Tryz.prog 52 ([pA b0 f0] : List Value).toArray w (fun e w_ => ∃ v, e = .returned v ∧ v = (nI r) ∧ Mem w [] w_ []) := by
 have HM := Mem.start w
 refine calls_run (N := 13) Tryz.func52 rfl rfl rfl rfl ?_
 unfold spec_l4Out.f at H
 refine run_seq (run_region rfl (oM rfl (ops_nil (at_then (run_seq (run_seq ?_))))))
 obtain ⟨t10, h12, H⟩ := bind_some H
 refine run_region rfl (oM rfl (oy rfl (ex_nilCheck rfl rfl) (oy rfl (ex_fieldAddr (off' := f0) rfl rfl U68 rfl tsz2 rfl) (oy rfl (ex_load1 rfl rfl U2 rfl ((HM.at_ hc0) 0 _ rfl)) (oz rfl (does_callk rfl callok50 rfl (spec_l1In.calls (x0 := x0.fValue) (x1 := 1) (x2 := 1000000) h12)) ?_)))))
 rintro _ w13 ⟨rfl, hn⟩
 replace HM := HM.callN hn rfl
 refine oy rfl (ex_not rfl rfl) (ops_nil (at_then (run_cond (b := !t10) rfl (fun hb14 => ?_) (fun hb14 => ?_))))
 ·replace H := cond_t hb14 H
  refine run_seq (run_region rfl (oM rfl (ops_nil (at_then (run_ret (at_then_ret ?_))))))
  cases H
  exact at_ret1 rfl rfl ⟨_, rfl, rfl, HM⟩
 ·replace H := cond_f hb14 H
  refine run_skip (at_then (run_seq ?_))
  obtain ⟨t11, h15, H⟩ := bind_some H
  refine run_region rfl (oM rfl (oy rfl (ex_nilCheck rfl rfl) (oy rfl (ex_fieldAddr (off' := f0 + 1) rfl rfl U68 rfl tsz66 rfl) (oz rfl (does_callk rfl callok90 rfl (spec_l2Fault.calls (x0 := x0.fRule) (CellsAt.sub (HM.at_ hc0) 1 3 rfl) (HM.rd hp0_0) h15)) ?_))))
  rintro _ w16 ⟨rfl, hn⟩
  replace HM := HM.callN hn rfl
  refine oM rfl (ops_nil (at_then (run_ret ?_)))
  cases H
  exact at_ret1 rfl rfl ⟨_, rfl, rfl, HM⟩

def spec_l4Ahead.f (k : Nat) (x0 : Ref) (x1 : Ref) : Option Bool := (bif (x0.fTx != x1.fTx) then some (decide (x0.fTx < x1.fTx)) else some (decide (x0.fAt < x1.fAt)))
theorem spec_l4Ahead.calls {k : Nat} {x0 : Ref} {x1 : Ref}  {w : World}  {r : Bool} (H : spec_l4Ahead.f k x0 x1 = some r) :
  Calls Tryz.prog 85 ([.agg #[(nI x0.fTx), (nI x0.fAt)], .agg #[(nI x1.fTx), (nI x1.fAt)]] : List Value).toArray w (fun e w_ => ∃ v, e = .returned v ∧ v = (.bool r) ∧ Mem w [] w_ []) := by
 have HM := Mem.start w
 refine calls_run (N := 20) Tryz.func85 rfl rfl rfl rfl ?_
 unfold spec_l4Ahead.f at H
 refine run_seq (run_region rfl (oz rfl (does_box (cs := [nI x0.fTx, nI x0.fAt]) rfl rfl rfl HM) ?_))
 rintro _ w10 ⟨b11, rfl, HM⟩
 refine oz rfl (does_box (cs := [nI x1.fTx, nI x1.fAt]) rfl rfl rfl HM) ?_
 rintro _ w12 ⟨b13, rfl, HM⟩
 refine oM rfl (ops_nil (at_then (run_seq (run_seq (run_region rfl (oy rfl (ex_fieldAddr (off' := 0) rfl rfl U38 rfl tsz2 rfl) (oy rfl (ex_load1 rfl rfl U2 rfl ((HM.box_at 1 rfl) 0 _ rfl)) (oy rfl (ex_fieldAddr (off' := 0) rfl rfl U38 rfl tsz2 rfl) (oy rfl (ex_load1 rfl rfl U2 rfl ((HM.box_at 0 rfl) 0 _ rfl)) (oy rfl (ex_neq rfl rfl rfl) (ops_nil (at_then ?_))))))))))))
 refine run_cond (b := (x0.fTx != x1.fTx)) rfl (fun hb14 => ?_) (fun hb14 => ?_)
 ·replace H := cond_t hb14 H
  refine run_seq (run_region rfl (oy rfl (ex_fieldAddr (off' := 0) rfl rfl U38 rfl tsz2 rfl) (oy rfl (ex_load1 rfl rfl U2 rfl ((HM.box_at 1 rfl) 0 _ rfl)) (oy rfl (ex_fieldAddr (off' := 0) rfl rfl U38 rfl tsz2 rfl) (oy rfl (ex_load1 rfl rfl U2 rfl ((HM.box_at 0 rfl) 0 _ rfl)) (oy rfl (ex_lss rfl rfl rfl) (oM rfl (ops_nil (at_then (run_ret ?_))))))))))
  refine at_then_ret ?_
  replace HM := (HM.frd 0 rfl).frd 0 rfl
  cases H
  exact at_ret1 rfl rfl ⟨_, rfl, rfl, HM⟩
 ·replace H := cond_f hb14 H
  refine run_skip (at_then (run_seq (run_region rfl (oy rfl (ex_fieldAddr (off' := 1) rfl rfl U38 rfl tsz2 rfl) (oy rfl (ex_load1 rfl rfl U2 rfl ((HM.box_at 1 rfl) 1 _ rfl)) (oy rfl (ex_fieldAddr (off' := 1) rfl rfl U38 rfl tsz2 rfl) (oy rfl (ex_load1 rfl rfl U2 rfl ((HM.box_at 0 rfl) 1 _ rfl)) (oy rfl (ex_lss rfl rfl rfl) (oM rfl ?_)))))))))
  refine ops_nil (at_then (run_ret ?_))
  replace HM := (HM.frd 0 rfl).frd 0 rfl
  cases H
  exact at_ret1 rfl rfl ⟨_, rfl, rfl, HM⟩

def spec_l4Fault.l0 (x0 : List Coin) : Nat → Int → Option (Int ⊕ Unit)
 | 0, _ => none
 | k + 1, a10 => (bif (decide (a10 < (x0.length : Int))) then (chk (idxOk a10 x0.length) ((spec_l3Ref.f k ((gt x0 a10).fRef)).bind fun t11 => (chk (!(!(!t11)) || (idxOk a10 x0.length)) ((bif (!(!t11)) then spec_l2Height.f k ((gt x0 a10).fHeight) else some default).bind fun t12 => (bif ((!t11) || (!t12)) then some (.inl 3) else (chk (idxOk a10 x0.length) ((spec_l4Out.f k ((gt x0 a10).fOut)).bind fun t13 => (bif (t13 != 0) then some (.inl t13) else (chk (!(decide (0 < a10)) || (idxOk (wrap64 (a10 - 1)) x0.length)) (chk (!(decide (0 < a10)) || (idxOk a10 x0.length)) ((bif (decide (0 < a10)) then spec_l4Ahead.f k ((gt x0 (wrap64 (a10 - 1))).fRef) ((gt x0 a10).fRef) else some default).bind fun t14 => (bif ((decide (0 < a10)) && (!t14)) then some (.inl 1) else spec_l4Fault.l0 x0 k (wrap64 (a10 + 1)))))))))))))) else some (.inr ()))
def spec_l4Fault.f (k : Nat) (x0 : List Coin) : Option Int := (bif (decide (40 < (x0.length : Int))) then some 2 else ((spec_l4Fault.l0 x0 k 0).bind fun o15 => thn o15 (fun r => some r) (fun _ => some 0)))
theorem spec_l4Fault.calls {k : Nat} {x0 : List Coin} {p0 : Value} {w : World} (hp0 : RdS kCoin w p0 x0) {r : Int} (H : spec_l4Fault.f k x0 = some r) :
  Calls Tryz.prog 45 ([p0] : List Value).toArray w (fun e w_ => ∃ v, e = .returned v ∧ v = (nI r) ∧ Mem w [] w_ []) := by
 have HM := Mem.start w
 refine calls_run (N := 55) Tryz.func45 rfl rfl rfl rfl ?_
 unfold spec_l4Fault.f at H
 refine run_seq (run_region rfl (oM rfl (ops_nil (at_then (run_seq (run_seq (run_region rfl (oM rfl (oy rfl (ex_len (d := kCoin) (xs := x0) rfl rfl U24 hp0) (oy rfl (ex_gtr rfl rfl rfl) (ops_nil (at_then ?_))))))))))))
 refine run_cond (b := (decide (40 < (x0.length : Int)))) rfl (fun hb16 => ?_) (fun hb16 => ?_)
 ·replace H := cond_t hb16 H
  refine run_seq (run_region rfl (oM rfl (ops_nil (at_then (run_ret (at_then_ret ?_))))))
  cases H
  exact at_ret1 rfl rfl ⟨_, rfl, rfl, HM⟩
 ·replace H := cond_f hb16 H
  refine run_skip (at_then ?_)
  obtain ⟨o15, ho17, H⟩ := bind_some H
  refine run_mid (fun ρ_ w_ => Sum.inr () = o15 ∧ ρ_ = [] ∧ Mem w [] w_ []) ?_ ?_
  ·refine run_seq (run_region rfl (oM rfl (ops_nil (at_then (run_block ?_)))))
   refine run_loop (fun k_ ρ_ w_ => ∃ a10 : Int, spec_l4Fault.l0 x0 k_ a10 = some o15 ∧ ρ_ = [(0, p0), (3, nI a10)] ∧ Mem w [] w_ []) k ⟨_, ho17, rfl, HM⟩ (Sub.of rfl) ?_
   clear HM ho17
   rintro k18 _ w19 ⟨a10, ho17, rfl, HM⟩
   obtain _ | k18 := k18
   ·exact nomatch ((spec_l4Fault.l0.eq_1 x0 a10).symm.trans ho17)
   replace ho17 := (spec_l4Fault.l0.eq_2 ..).symm.trans ho17
   refine run_seq (run_seq (run_region rfl (oM rfl (oM rfl (oy rfl (ex_len (d := kCoin) (xs := x0) rfl rfl U24 hp0) (oy rfl (ex_lss rfl rfl rfl) (ops_nil (at_then (run_cond (b := (decide (a10 < (x0.length : Int)))) rfl (fun hb20 => ?_) (fun hb20 => ?_))))))))))
   ·replace ho17 := cond_t hb20 ho17
    refine run_skip (at_then (run_seq (run_block (run_seq (run_seq ?_)))))
    obtain ⟨e21, ho17⟩ := chk_some ho17
    obtain ⟨t11, h22, ho17⟩ := bind_some ho17
    obtain ⟨e23, ho17⟩ := chk_some ho17
    obtain ⟨t12, h24, ho17⟩ := bind_some ho17
    refine run_meet (fun ρ_ w_ => ρ_ = [(0, p0), (3, nI a10), (29, .bool ((!t11) || (!t12)))] ∧ Mem w [] w_ []) ?_ ?_
    ·refine run_region rfl (oM rfl (oM rfl ?_))
     obtain ⟨kv25, hc26, hk27⟩ := rd_with1 hp0 e21
     refine oy rfl (ex_indexAddr (d := kCoin) rfl rfl rfl U24 tsz70 hp0 (idx_lo e21) (idx_hi e21)) (oy rfl (ex_fieldAddr (off' := so p0 + (a10).toNat * 8) rfl rfl U70 rfl tsz38 rfl) (oy rfl (ldN rfl rfl U38 rfl tsz38 ((HM.at_ hc26).subL 0 2 rfl) rfl) (oz rfl (does_callk rfl callok84 rfl (spec_l3Ref.calls (x0 := (gt x0 a10).fRef) h22)) ?_)))
     rintro _ w28 ⟨rfl, hn⟩
     replace HM := HM.callN hn rfl
     refine oy rfl (ex_not rfl rfl) (oM rfl ?_)
     refine bool_cases (!t11) (fun hg29 => ?_) (fun hg29 => ?_)
     ·refine gf rfl hg29 (gf rfl hg29 (gf rfl hg29 (gf rfl hg29 (gf rfl hg29 (gf rfl hg29 (gf rfl hg29 ?_))))))
      have hg30 : ((!t11) || (!t12)) = true := by simp only [hg29, Bool.and_true, Bool.true_and, Bool.and_false, Bool.false_and, Bool.or_true, Bool.true_or, Bool.or_false, Bool.false_or, Bool.not_true, Bool.not_false, Bool.not_not]
      exact ops_ex (v := .bool ((!t11) || (!t12))) rfl (guard_none rfl) rfl rfl (ex_por_t rfl rfl hg29) (ops_nil (at_meet _ ⟨rfl, HM⟩ (Sub.of rfl)))
     ·refine gn rfl hg29 (ex_move rfl rfl) (gn rfl hg29 (ex_move rfl rfl) ?_)
      obtain ⟨kv31, hc32, hk33⟩ := rd_with1 hp0 (or_t e23 (not_mk hg29))
      refine gn rfl hg29 (ex_indexAddr (d := kCoin) rfl rfl rfl U24 tsz70 hp0 (idx_lo (or_t e23 (not_mk hg29))) (idx_hi (or_t e23 (not_mk hg29)))) (gn rfl hg29 (ex_fieldAddr (off' := so p0 + (a10).toNat * 8 + 6) rfl rfl U70 rfl tsz2 rfl) (gn rfl hg29 (ex_load1 rfl rfl U2 rfl ((HM.at_ hc32) 6 _ rfl)) (ops_does rfl (guard_on rfl rfl rfl hg29) rfl rfl (does_callk rfl callok51 rfl (spec_l2Height.calls (x0 := (gt x0 a10).fHeight) (cond_t (not_mk hg29) h24))) ?_)))
      rintro _ w34 ⟨rfl, hn⟩
      replace HM := HM.callN hn rfl
      exact gn rfl hg29 (ex_not rfl rfl) (ops_ex (v := .bool ((!t11) || (!t12))) rfl (guard_none rfl) rfl rfl (ex_por_f rfl rfl hg29 rfl) (ops_nil (at_meet _ ⟨rfl, HM⟩ (Sub.of rfl))))
    ·rintro _ w35 ⟨rfl, HM⟩
     refine at_then (run_cond (b := ((!t11) || (!t12))) rfl (fun hb36 => ?_) (fun hb36 => ?_))
     ·replace ho17 := cond_t hb36 ho17
      refine run_seq (run_region rfl (oM rfl (ops_nil (at_then (run_ret (at_then_ret (at_block_ret (at_then_ret (at_then_ret (at_block_ret ?_))))))))))
      refine at_then_ret ?_
      cases ho17
      have hT := thn_inl H
      cases hT
      exact at_ret1 rfl rfl ⟨_, rfl, rfl, HM⟩
     ·replace ho17 := cond_f hb36 ho17
      refine run_skip (at_then (run_seq (run_seq ?_)))
      obtain ⟨e37, ho17⟩ := chk_some ho17
      obtain ⟨t13, h38, ho17⟩ := bind_some ho17
      refine run_region rfl (oM rfl (oM rfl ?_))
      obtain ⟨kv39, hc40, hk41⟩ := rd_with1 hp0 e37
      refine oy rfl (ex_indexAddr (d := kCoin) rfl rfl rfl U24 tsz70 hp0 (idx_lo e37) (idx_hi e37)) (oy rfl (ex_fieldAddr (off' := so p0 + (a10).toNat * 8 + 2) rfl rfl U70 rfl tsz68 rfl) (oz rfl (does_callk rfl callok52 rfl (spec_l4Out.calls (x0 := (gt x0 a10).fOut) (CellsAt.sub (HM.at_ hc40) 2 4 rfl) (HM.rd hk41) h38)) ?_))
      rintro _ w42 ⟨rfl, hn⟩
      replace HM := HM.callN hn rfl
      refine oM rfl (ops_nil (at_then (run_seq (run_region rfl (oM rfl (oy rfl (ex_neq rfl rfl rfl) (ops_nil (at_then (run_cond (b := (t13 != 0)) rfl (fun hb43 => ?_) (fun hb43 => ?_))))))))))
      ·replace ho17 := cond_t hb43 ho17
       refine run_seq (run_region rfl (oM rfl (oM rfl (ops_nil (at_then (run_ret (at_then_ret (at_block_ret (at_then_ret (at_then_ret ?_))))))))))
       refine at_block_ret (at_then_ret ?_)
       cases ho17
       have hT := thn_inl H
       cases hT
       exact at_ret1 rfl rfl ⟨_, rfl, rfl, HM⟩
      ·replace ho17 := cond_f hb43 ho17
       refine run_skip (at_then (run_seq ?_))
       obtain ⟨e44, ho17⟩ := chk_some ho17
       obtain ⟨e45, ho17⟩ := chk_some ho17
       obtain ⟨t14, h46, ho17⟩ := bind_some ho17
       refine run_meet (fun ρ_ w_ => ρ_ = [(0, p0), (3, nI a10), (54, .bool ((decide (0 < a10)) && (!t14)))] ∧ Mem w [] w_ []) ?_ ?_
       ·refine run_drawf (fun w_ => Mem w [] w_ []) [(0, true), (1, true), (2, true), (3, true), (4, true), (5, true), (6, true), (7, true), (8, true), (9, true), (10, true), (11, true), (12, true), (13, true), (14, false), (15, true), (16, true)] mixed rfl rfl (by kernel_rfl) ?_
        replace HM := HM.grow (fr_drew _)
        have hS := HM.sufN 0 rfl
        refine dp rfl rfl rfl rfl (ex_move rfl rfl) hS (dp rfl rfl rfl rfl (ex_gtr rfl rfl rfl) hS (dp rfl rfl rfl rfl (ex_move rfl rfl) hS ?_))
        refine bool_cases (decide (0 < a10)) (fun hg47 => ?_) (fun hg47 => ?_)
        ·refine drwp_take rfl (guard_on rfl rfl rfl hg47) rfl rfl (fun w_ hS_ => (ex_move rfl rfl)) hS (drwp_take rfl (guard_on rfl rfl rfl hg47) rfl rfl (fun w_ hS_ => (ex_move rfl rfl)) hS (drwp_take rfl (guard_on rfl rfl rfl hg47) rfl rfl (fun w_ hS_ => (ex_sub rfl rfl rfl)) hS ?_))
         obtain ⟨kv48, hc49, hk50⟩ := rd_with1 hp0 (or_t e44 hg47)
         refine drwp_take rfl (guard_on rfl rfl rfl hg47) rfl rfl (fun w_ hS_ => (ex_indexAddr (d := kCoin) rfl rfl rfl U24 tsz70 hp0 (idx_lo (or_t e44 hg47)) (idx_hi (or_t e44 hg47)))) hS (drwp_take rfl (guard_on rfl rfl rfl hg47) rfl rfl (fun w_ hS_ => (ex_fieldAddr (off' := so p0 + (wrap64 (a10 - 1)).toNat * 8) rfl rfl U70 rfl tsz38 rfl)) hS (drwp_take rfl (guard_on rfl rfl rfl hg47) rfl rfl (fun w_ hS_ => (ldN rfl rfl U38 rfl tsz38 ((hS_.at_ hc49).subL 0 2 rfl) rfl)) hS (drwp_take rfl (guard_on rfl rfl rfl hg47) rfl rfl (fun w_ hS_ => (ex_move rfl rfl)) hS (drwp_take rfl (guard_on rfl rfl rfl hg47) rfl rfl (fun w_ hS_ => (ex_move rfl rfl)) hS ?_))))
         obtain ⟨kv51, hc52, hk53⟩ := rd_with1 hp0 (or_t e45 hg47)
         refine drwp_take rfl (guard_on rfl rfl rfl hg47) rfl rfl (fun w_ hS_ => (ex_indexAddr (d := kCoin) rfl rfl rfl U24 tsz70 hp0 (idx_lo (or_t e45 hg47)) (idx_hi (or_t e45 hg47)))) hS (drwp_take rfl (guard_on rfl rfl rfl hg47) rfl rfl (fun w_ hS_ => (ex_fieldAddr (off' := so p0 + (a10).toNat * 8) rfl rfl U70 rfl tsz38 rfl)) hS (drwp_take rfl (guard_on rfl rfl rfl hg47) rfl rfl (fun w_ hS_ => (ldN rfl rfl U38 rfl tsz38 ((hS_.at_ hc52).subL 0 2 rfl) rfl)) hS (drwp_one rfl (guard_on rfl rfl rfl hg47) rfl rfl (does_callk rfl callok85 rfl (spec_l4Ahead.calls (x0 := (gt x0 (wrap64 (a10 - 1))).fRef) (x1 := (gt x0 a10).fRef) (cond_t hg47 h46))) ?_)))
         rintro _ w54 ⟨rfl, hn⟩
         replace HM := HM.callN hn rfl
         have hS := HM.sufN 0 rfl
         exact ⟨hS, (drwp_take rfl (guard_on rfl rfl rfl hg47) rfl rfl (fun w_ hS_ => (ex_not rfl rfl)) hS (drwp_take (v := .bool ((decide (0 < a10)) && (!t14))) rfl (guard_none rfl) rfl rfl (fun w_ hS_ => (ex_pand_t rfl rfl hg47 rfl)) hS (drwp_done (at_meet _ ⟨rfl, HM⟩ (Sub.of rfl)))))⟩
        ·refine drwp_off rfl (guard_off rfl rfl rfl hg47) rfl rfl hS (drwp_off rfl (guard_off rfl rfl rfl hg47) rfl rfl hS (drwp_off rfl (guard_off rfl rfl rfl hg47) rfl rfl hS (drwp_off rfl (guard_off rfl rfl rfl hg47) rfl rfl hS (drwp_off rfl (guard_off rfl rfl rfl hg47) rfl rfl hS (drwp_off rfl (guard_off rfl rfl rfl hg47) rfl rfl hS (drwp_off rfl (guard_off rfl rfl rfl hg47) rfl rfl hS (drwp_off rfl (guard_off rfl rfl rfl hg47) rfl rfl hS (drwp_off rfl (guard_off rfl rfl rfl hg47) rfl rfl hS (drwp_off rfl (guard_off rfl rfl rfl hg47) rfl rfl hS ?_)))))))))
         refine drwp_off rfl (guard_off rfl rfl rfl hg47) rfl rfl hS (drwp_off1 rfl (guard_off rfl rfl rfl hg47) rfl rfl ⟨hS, (drwp_off rfl (guard_off rfl rfl rfl hg47) rfl rfl hS ?_)⟩)
         have hg55 : ((decide (0 < a10)) && (!t14)) = false := by simp only [hg47, Bool.and_true, Bool.true_and, Bool.and_false, Bool.false_and, Bool.or_true, Bool.true_or, Bool.or_false, Bool.false_or, Bool.not_true, Bool.not_false, Bool.not_not]
         exact drwp_take (v := .bool ((decide (0 < a10)) && (!t14))) rfl (guard_none rfl) rfl rfl (fun w_ hS_ => (ex_pand_f rfl rfl hg47)) hS (drwp_done (at_meet _ ⟨rfl, HM⟩ (Sub.of rfl)))
       ·rintro _ w56 ⟨rfl, HM⟩
        refine at_then (run_cond (b := ((decide (0 < a10)) && (!t14))) rfl (fun hb57 => ?_) (fun hb57 => ?_))
        ·replace ho17 := cond_t hb57 ho17
         refine run_seq (run_region rfl (oM rfl (ops_nil (at_then (run_ret (at_block_ret (at_then_ret (at_then_ret (at_block_ret (at_then_ret ?_))))))))))
         cases ho17
         have hT := thn_inl H
         cases hT
         exact at_ret1 rfl rfl ⟨_, rfl, rfl, HM⟩
        ·replace ho17 := cond_f hb57 ho17
         exact run_skip (at_block (at_then (run_region rfl (oM rfl (oy rfl (ex_add rfl rfl rfl) (oM rfl (ops_nil (at_again k18 (Nat.lt_succ_self _) ⟨_, ho17, rfl, HM⟩ (Sub.of rfl)))))))))
   ·replace ho17 := cond_f hb20 ho17
    exact run_exit (at_then_exit (at_then_exit (at_block_exit (at_mid ⟨(sj ho17), rfl, HM⟩ Sub.nil))))
  ·rintro _ w58 ⟨rfl, rfl, HM⟩
   replace H := (thn_inr H)
   refine run_seq (run_region rfl (oM rfl (ops_nil (at_then (run_ret ?_)))))
   cases H
   exact at_ret1 rfl rfl ⟨_, rfl, rfl, HM⟩
end Go.Proofs.YtecgbhfgkkpmhacGreat.Zk
