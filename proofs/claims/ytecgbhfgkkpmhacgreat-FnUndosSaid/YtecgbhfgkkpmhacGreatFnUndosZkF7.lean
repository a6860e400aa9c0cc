/- What functions of the program compute, each as a plain function, and that they do. Conditions: as each theorem states them. -/
import Derived.Test.YtecgbhfgkkpmhacGreatFnUndosZkF6
namespace Go.Proofs.YtecgbhfgkkpmhacGreat.Zk
open Go Go.RowKit Go.IntWalk Go.Proofs
set_option linter.unusedVariables false
set_option linter.unusedSimpArgs false
set_option maxRecDepth 100000
set_option maxHeartbeats 4000000
def spec_l1Id.f (k : Nat) (x0 : Ledger) (x1 : Int) : Option Bool := ((spec_l1In.f k x1 1 (x0.fTexts.length : Int)).bind fun t10 => some t10)
theorem spec_l1Id.calls {k : Nat} {x0 : Ledger} {x1 : Int} {b0 f0 : Nat} {p0_0 : Value} {p0_1 : Value} {w : World} (hc0 : CellsAt w b0 f0 [p0_0, p0_1]) (hp0_0 : RdS kStr w p0_0 x0.fTexts) (hp0_1 : RdS kSign w p0_1 x0.fSigns) {r : Bool} (H : spec_l1Id.f k x0 x1 = some r) :
  Calls Tryz.prog 111 ([pA b0 f0, nI x1] : List Value).toArray w (fun e w_ => ∃ v, e = .returned v ∧ v = (.bool r) ∧ Mem w [] w_ []) := by
 have HM := Mem.start w
 refine calls_run (N := 12) Tryz.func111 rfl rfl rfl rfl ?_
 unfold spec_l1Id.f at H
 refine run_seq (run_region rfl (oM rfl (ops_nil (at_then (run_seq ?_)))))
 obtain ⟨t10, h11, H⟩ := bind_some H
 refine run_region rfl (oM rfl (oM rfl (oy rfl (ex_nilCheck rfl rfl) (oy rfl (ex_fieldAddr (off' := f0) rfl rfl U46 rfl tsz43 rfl) (oy rfl (ex_load1 rfl rfl U43 rfl ((HM.at_ hc0) 0 _ rfl)) (oy rfl (ex_len (d := kStr) (xs := x0.fTexts) rfl rfl U43 hp0_0) (oz rfl (does_callk rfl callok50 rfl (spec_l1In.calls (x0 := x1) (x1 := 1) (x2 := (x0.fTexts.length : Int)) h11)) ?_)))))))
 rintro _ w12 ⟨rfl, hn⟩
 replace HM := HM.callN hn rfl
 refine oM rfl (ops_nil (at_then (run_ret ?_)))
 cases H
 exact at_ret1 rfl rfl ⟨_, rfl, rfl, HM⟩

def spec_SignId.f (k : Nat) (x0 : Ledger) (x1 : Int) (x2 : Int) : Option LedgerResult := ((spec_l1Fault.f k x0).bind fun t10 => (bif (t10 != 0) then some (⟨t10, 0, (⟨([] : List ByteArray), ([] : List Sign)⟩ : Ledger)⟩ : LedgerResult) else ((spec_l1Key.f k x1).bind fun t11 => ((bif (!(!t11)) then spec_l1Id.f k x0 x2 else some default).bind fun t12 => (bif ((!t11) || (!t12)) then some (⟨3, 0, (⟨([] : List ByteArray), ([] : List Sign)⟩ : Ledger)⟩ : LedgerResult) else ((spec_l1Copy.f k x0).bind fun t13 => ((spec_l1Signed.f k x0.fSigns (⟨x1, x2⟩ : Sign)).bind fun t14 => (bif t14 then some (⟨0, x2, t13⟩ : LedgerResult) else (bif (decide (120 ≤ (x0.fSigns.length : Int))) then some (⟨2, 0, (⟨([] : List ByteArray), ([] : List Sign)⟩ : Ledger)⟩ : LedgerResult) else (chk (leB ((t13.fSigns.length + ([(⟨x1, x2⟩ : Sign)] : List Sign).length) * 16) 140737488355328) (some (⟨0, x2, (⟨t13.fTexts, t13.fSigns ++ ([(⟨x1, x2⟩ : Sign)] : List Sign)⟩ : Ledger)⟩ : LedgerResult))))))))))))
theorem spec_SignId.calls {k : Nat} {x0 : Ledger} {x1 : Int} {x2 : Int} {p0_0 : Value} {p0_1 : Value} {w : World} (hp0_0 : RdS kStr w p0_0 x0.fTexts) (hp0_1 : RdS kSign w p0_1 x0.fSigns) {r : LedgerResult} (H : spec_SignId.f k x0 x1 x2 = some r) :
  Calls Tryz.prog 76 ([.agg #[p0_0, p0_1], nI x1, nI x2] : List Value).toArray w (fun e w_ => ∃ v, e = .returned v ∧ ∃ u0 : Value, ∃ u1 : Value, v = (.agg #[nI r.fCode, nI r.fId, u0, u1]) ∧ Mem w [] w_ [own kStr 9 u0 r.fLedger.fTexts, own kSign 119 u1 r.fLedger.fSigns]) := by
 have HM := Mem.start w
 refine calls_run (N := 50) Tryz.func76 rfl rfl rfl rfl ?_
 unfold spec_SignId.f at H
 refine run_seq (run_region rfl (oz rfl (does_box (cs := [p0_0, p0_1]) rfl rfl rfl HM) ?_))
 rintro _ w15 ⟨b16, rfl, HM⟩
 refine oz rfl (does_alloc (cs := [nI 0, nI 0, .slice none 0 0, .slice none 0 0]) rfl tz110 rfl HM) ?_
 rintro _ w17 ⟨b18, rfl, HM⟩
 refine ops_nil (at_then (run_seq (run_seq ?_)))
 obtain ⟨t10, h19, H⟩ := bind_some H
 refine run_region rfl (oz rfl (does_callk rfl callok107 rfl (spec_l1Fault.calls (x0 := x0) (HM.box_at 1 rfl) (HM.rd hp0_0) (HM.rd hp0_1) h19)) ?_)
 rintro _ w20 ⟨rfl, hn⟩
 replace HM := HM.callN hn rfl
 refine oM rfl (ops_nil (at_then (run_seq (run_region rfl (oM rfl (oy rfl (ex_neq rfl rfl rfl) (ops_nil (at_then (run_cond (b := (t10 != 0)) rfl (fun hb21 => ?_) (fun hb21 => ?_))))))))))
 ·replace H := cond_t hb21 H
  refine run_seq (run_region rfl (oM rfl (oy rfl (ex_build (cells := #[(nI t10), (nI 0), (.slice none 0 0), (.slice none 0 0)]) rfl rfl (by kernel_rfl)) ?_)))
  refine odS rfl rfl rfl (does_store (vs := [nI t10, nI 0, .slice none 0 0, .slice none 0 0]) (cs' := [nI t10, nI 0, .slice none 0 0, .slice none 0 0]) rfl rfl rfl rfl tsz110 (Ones.int (Ones.int (Ones.sl (Ones.sl Ones.nil)))) rfl rfl HM) ?_
  rintro w22 HM
  refine ops_nil (at_then (run_ret (at_then_ret ?_)))
  replace HM := HM.empty kStr 9 none
  replace HM := ((HM.empty kSign 119 none).frd 3 rfl).fr1 1 rfl
  replace HM := HM.fr1 2 rfl
  have hcb0 := HM.box_at 0 rfl
  replace HM := HM.frd 0 rfl
  cases H
  exact at_retN rfl rfl U110 rfl tsz110 rfl hcb0 ⟨_, rfl, _, _, rfl, HM⟩
 ·replace H := cond_f hb21 H
  refine run_skip (at_then (run_seq (run_seq ?_)))
  obtain ⟨t11, h23, H⟩ := bind_some H
  obtain ⟨t12, h24, H⟩ := bind_some H
  refine run_meet (fun ρ_ w_ => ρ_ = [(1, nI x1), (2, nI x2), (3, pA b16 0), (6, pA b18 0), (22, .bool ((!t11) || (!t12)))] ∧ Mem w [] w_ [box b16 46 [p0_0, p0_1], box b18 110 [nI 0, nI 0, .slice none 0 0, .slice none 0 0]]) ?_ ?_
  ·refine run_region rfl (oM rfl (oz rfl (does_callk rfl callok86 rfl (spec_l1Key.calls (x0 := x1) h23)) ?_))
   rintro _ w25 ⟨rfl, hn⟩
   replace HM := HM.callN hn rfl
   refine oy rfl (ex_not rfl rfl) (oM rfl ?_)
   refine bool_cases (!t11) (fun hg26 => ?_) (fun hg26 => ?_)
   ·refine gf rfl hg26 (gf rfl hg26 (gf rfl hg26 ?_))
    have hg27 : ((!t11) || (!t12)) = true := by simp only [hg26, Bool.and_true, Bool.true_and, Bool.and_false, Bool.false_and, Bool.or_true, Bool.true_or, Bool.or_false, Bool.false_or, Bool.not_true, Bool.not_false, Bool.not_not]
    refine ops_ex (v := .bool ((!t11) || (!t12))) rfl (guard_none rfl) rfl rfl (ex_por_t rfl rfl hg26) (ops_nil ?_)
    replace HM := HM.fr1 1 rfl
    exact at_meet _ ⟨rfl, HM⟩ (Sub.of rfl)
   ·refine gn rfl hg26 (ex_move rfl rfl) (ops_does rfl (guard_on rfl rfl rfl hg26) rfl rfl (does_callk rfl callok111 rfl (spec_l1Id.calls (x0 := x0) (x1 := x2) (HM.box_at 1 rfl) (HM.rd hp0_0) (HM.rd hp0_1) (cond_t (not_mk hg26) h24))) ?_)
    rintro _ w28 ⟨rfl, hn⟩
    replace HM := HM.callN hn rfl
    refine gn rfl hg26 (ex_not rfl rfl) (ops_ex (v := .bool ((!t11) || (!t12))) rfl (guard_none rfl) rfl rfl (ex_por_f rfl rfl hg26 rfl) (ops_nil ?_))
    replace HM := HM.fr1 1 rfl
    exact at_meet _ ⟨rfl, HM⟩ (Sub.of rfl)
  ·rintro _ w29 ⟨rfl, HM⟩
   refine at_then (run_cond (b := ((!t11) || (!t12))) rfl (fun hb30 => ?_) (fun hb30 => ?_))
   ·replace H := cond_t hb30 H
    refine run_seq (run_region rfl (oy rfl (ex_build (cells := #[(nI 3), (nI 0), (.slice none 0 0), (.slice none 0 0)]) rfl rfl (by kernel_rfl)) ?_))
    replace HM := HM.fr1 1 rfl
    refine odS rfl rfl rfl (does_store (vs := [nI 3, nI 0, .slice none 0 0, .slice none 0 0]) (cs' := [nI 3, nI 0, .slice none 0 0, .slice none 0 0]) rfl rfl rfl rfl tsz110 (Ones.int (Ones.int (Ones.sl (Ones.sl Ones.nil)))) rfl rfl HM) ?_
    rintro w31 HM
    refine ops_nil (at_then (run_ret (at_then_ret ?_)))
    replace HM := HM.empty kStr 9 none
    replace HM := ((HM.empty kSign 119 none).frd 3 rfl).fr1 1 rfl
    replace HM := HM.fr1 2 rfl
    have hcb0 := HM.box_at 0 rfl
    replace HM := HM.frd 0 rfl
    cases H
    exact at_retN rfl rfl U110 rfl tsz110 rfl hcb0 ⟨_, rfl, _, _, rfl, HM⟩
   ·replace H := cond_f hb30 H
    refine run_skip (at_then (run_seq ?_))
    obtain ⟨t13, h32, H⟩ := bind_some H
    refine run_region rfl (oy rfl (ldN rfl rfl U46 rfl tsz46 ((HM.box_at 0 rfl).subL 0 2 rfl) rfl) (oz rfl (does_callk rfl callok108 rfl (spec_l1Copy.calls (x0 := x0) (HM.rd hp0_0) (HM.rd hp0_1) h32)) ?_))
    rintro _ w33 ⟨u34, u35, rfl, hn⟩
    replace HM := HM.callN hn rfl
    refine oz rfl (does_alloc (cs := [.slice none 0 0, .slice none 0 0]) rfl tz46 rfl HM) ?_
    rintro _ w36 ⟨b37, rfl, HM⟩
    refine odS rfl rfl rfl (does_store (vs := [u34, u35]) (cs' := [u34, u35]) rfl rfl rfl rfl tsz46 (Ones.rd (HM.own_rd 1 rfl) (Ones.rd (HM.own_rd 2 rfl) Ones.nil)) rfl rfl HM) ?_
    rintro w38 HM
    refine ops_nil (at_then (run_seq (run_region rfl (oM rfl (oM rfl (oy rfl (ex_build (cells := #[(nI x1), (nI x2)]) rfl rfl (by kernel_rfl)) ?_))))))
    refine oz rfl (does_alloc (cs := [nI 0, nI 0]) rfl tz119 rfl HM) ?_
    rintro _ w39 ⟨b40, rfl, HM⟩
    refine odS rfl rfl rfl (does_store (vs := [nI x1, nI x2]) (cs' := [nI x1, nI x2]) rfl rfl rfl rfl tsz119 (Ones.int (Ones.int Ones.nil)) rfl rfl HM) ?_
    rintro w41 HM
    refine ops_nil (at_then (run_seq (run_seq ?_)))
    obtain ⟨t14, h42, H⟩ := bind_some H
    refine run_region rfl (oy rfl (ex_fieldAddr (off' := 1) rfl rfl U46 rfl tsz44 rfl) (oy rfl (ex_load1 rfl rfl U44 rfl ((HM.box_at 4 rfl) 1 _ rfl)) (oy rfl (ldN rfl rfl U119 rfl tsz119 ((HM.box_at 0 rfl).subL 0 2 rfl) rfl) (oz rfl (does_callk rfl callok112 rfl (spec_l1Signed.calls (x0 := x0.fSigns) (x1 := (⟨x1, x2⟩ : Sign)) (HM.rd hp0_1) h42)) ?_))))
    rintro _ w43 ⟨rfl, hn⟩
    replace HM := HM.callN hn rfl
    refine ops_nil (at_then (run_cond (b := t14) rfl (fun hb44 => ?_) (fun hb44 => ?_)))
    ·replace H := cond_t hb44 H
     refine run_seq (run_region rfl (oM rfl (oy rfl (ldN rfl rfl U46 rfl tsz46 ((HM.box_at 1 rfl).subL 0 2 rfl) rfl) (oy rfl (ex_build2 (fun u34 u35 => [(1, nI x2), (2, .agg #[u34, u35])]) (fun u34 u35 => #[nI 0, nI x2, u34, u35]) rfl rfl (fun _ _ _ _ _ _ => by kernel_rfl) (HM.own_rd 2 rfl).isSl (HM.own_rd 3 rfl).isSl) ?_))))
     replace HM := HM.fr1 5 rfl
     refine odS rfl rfl rfl (does_store (vs := [nI 0, nI x2, u34, u35]) (cs' := [nI 0, nI x2, u34, u35]) rfl rfl rfl rfl tsz110 (Ones.int (Ones.int (Ones.rd (HM.own_rd 3 rfl) (Ones.rd (HM.own_rd 4 rfl) Ones.nil)))) rfl rfl HM) ?_
     rintro w45 HM
     refine ops_nil (at_then (run_ret (at_then_ret ?_)))
     replace HM := ((HM.frd 1 rfl).frd 1 rfl).frd 3 rfl
     have hcb0 := HM.box_at 0 rfl
     replace HM := HM.frd 0 rfl
     cases H
     exact at_retN rfl rfl U110 rfl tsz110 rfl hcb0 ⟨_, rfl, _, _, rfl, HM⟩
    ·replace H := cond_f hb44 H
     refine run_skip (at_then (run_seq (run_seq (run_region rfl (oy rfl (ex_fieldAddr (off' := 1) rfl rfl U46 rfl tsz44 rfl) (oy rfl (ex_load1 rfl rfl U44 rfl ((HM.box_at 4 rfl) 1 _ rfl)) (oy rfl (ex_len (d := kSign) (xs := x0.fSigns) rfl rfl U44 hp0_1) (oy rfl (ex_geq rfl rfl rfl) (ops_nil (at_then ?_))))))))))
     refine run_cond (b := (decide (120 ≤ (x0.fSigns.length : Int)))) rfl (fun hb46 => ?_) (fun hb46 => ?_)
     ·replace H := cond_t hb46 H
      refine run_seq (run_region rfl (oy rfl (ex_build (cells := #[(nI 2), (nI 0), (.slice none 0 0), (.slice none 0 0)]) rfl rfl (by kernel_rfl)) ?_))
      replace HM := HM.fr1 5 rfl
      refine odS rfl rfl rfl (does_store (vs := [nI 2, nI 0, .slice none 0 0, .slice none 0 0]) (cs' := [nI 2, nI 0, .slice none 0 0, .slice none 0 0]) rfl rfl rfl rfl tsz110 (Ones.int (Ones.int (Ones.sl (Ones.sl Ones.nil)))) rfl rfl HM) ?_
      rintro w47 HM
      refine ops_nil (at_then (run_ret (at_then_ret ?_)))
      replace HM := HM.empty kStr 9 none
      replace HM := ((HM.empty kSign 119 none).frd 3 rfl).frd 3 rfl
      replace HM := ((HM.frd 3 rfl).frd 3 rfl).frd 3 rfl
      replace HM := (HM.fr1 1 rfl).fr1 2 rfl
      have hcb0 := HM.box_at 0 rfl
      replace HM := HM.frd 0 rfl
      cases H
      exact at_retN rfl rfl U110 rfl tsz110 rfl hcb0 ⟨_, rfl, _, _, rfl, HM⟩
     ·replace H := cond_f hb46 H
      refine run_skip (at_then (run_seq ?_))
      obtain ⟨e48, H⟩ := chk_some H
      refine run_region rfl (oy rfl (ex_fieldAddr (off' := 1) rfl rfl U46 rfl tsz44 rfl) (oy rfl (ex_load1 rfl rfl U44 rfl ((HM.box_at 1 rfl) 1 _ rfl)) (oy rfl (ldN rfl rfl U119 rfl tsz119 ((HM.box_at 0 rfl).subL 0 2 rfl) rfl) (oz rfl (does_lit (e := 119) (cs := [nI x1, nI x2]) (xs := ([(⟨x1, x2⟩ : Sign)] : List Sign)) kSign rfl rfl (fun _ => by kernel_rfl) rfl rfl (fun _ _ h => by have h' : _ = [] := h; subst h'; exact (Elems.cons (d := kSign) (x := (⟨x1, x2⟩ : Sign)) (f := []) ⟨rfl, rfl⟩ .nil)) HM.emp) ?_))))
      rintro v49 w50 HM
      replace HM := HM.fr1 4 rfl
      refine oz rfl (does_appendR kSign flat_plain rfl rfl rfl U44 tsz119 rfl tby119 tz119 rfl rfl (leB_le e48) (HM.own_rd 1 rfl) HM) ?_
      rintro v51 w52 HM
      refine oy rfl (ex_fieldAddr (off' := 1) rfl rfl U46 rfl tsz44 rfl) ?_
      replace HM := HM.fr1 3 rfl
      refine odS rfl rfl rfl (does_store (vs := [v51]) (cs' := [u34, v51]) rfl rfl rfl (rd_cells (HM.own_rd 1 rfl)) tsz44 (Ones.rd (HM.own_rd 1 rfl) Ones.nil) rfl rfl HM) ?_
      rintro w53 HM
      refine ops_nil (at_then (run_seq (run_region rfl (oM rfl (oy rfl (ldN rfl rfl U46 rfl tsz46 ((HM.box_at 0 rfl).subL 0 2 rfl) rfl) (oy rfl (ex_build2 (fun u34 v51 => [(1, nI x2), (2, .agg #[u34, v51])]) (fun u34 v51 => #[nI 0, nI x2, u34, v51]) rfl rfl (fun _ _ _ _ _ _ => by kernel_rfl) (HM.own_rd 4 rfl).isSl (HM.own_rd 1 rfl).isSl) ?_))))))
      replace HM := HM.fr1 6 rfl
      refine odS rfl rfl rfl (does_store (vs := [nI 0, nI x2, u34, v51]) (cs' := [nI 0, nI x2, u34, v51]) rfl rfl rfl rfl tsz110 (Ones.int (Ones.int (Ones.rd (HM.own_rd 5 rfl) (Ones.rd (HM.own_rd 2 rfl) Ones.nil)))) rfl rfl HM) ?_
      rintro w54 HM
      refine ops_nil (at_then (run_ret ?_))
      replace HM := ((HM.frd 1 rfl).frd 2 rfl).frd 2 rfl
      replace HM := ((HM.frd 3 rfl).fr1 1 rfl).fr1 2 rfl
      replace HM := HM.fr1 2 rfl
      have hcb0 := HM.box_at 0 rfl
      replace HM := HM.frd 0 rfl
      cases H
      exact at_retN rfl rfl U110 rfl tsz110 rfl hcb0 ⟨_, rfl, _, _, rfl, HM⟩

def spec_l5World.l0 (x0 : l1Src) : Nat → Int → (List ByteArray) → (List Sign) → Int → Option (Int × (List ByteArray) × (List Sign))
 | 0, _, _, _, _ => none
 | k + 1, a10, a11, a12, a13 => (bif (decide (0 < a13)) then ((spec_l1Word.f k (⟨x0.fCode, a10⟩ : l1Src)).bind fun t14 => ((spec_NoteText.f k (⟨a11, a12⟩ : Ledger) t14.1).bind fun t15 => spec_l5World.l0 x0 k t14.2 t15.fLedger.fTexts t15.fLedger.fSigns (wrap64 (a13 - 1)))) else some (a10, a11, a12))
def spec_l5World.l1 (x0 : l1Src) (t16 : LedgerResult) : Nat → Int → (List ByteArray) → (List Sign) → Int → Option (Int × (List ByteArray) × (List Sign))
 | 0, _, _, _, _ => none
 | k + 1, a17, a18, a19, a20 => (bif (decide (a20 < 7)) then ((spec_l1Chance.f k (⟨x0.fCode, a17⟩ : l1Src) 8).bind fun t21 => (bif !t21.1 then ((spec_SignId.f k (⟨a18, a19⟩ : Ledger) a20 t16.fId).bind fun t22 => spec_l5World.l1 x0 t16 k t21.2 t22.fLedger.fTexts t22.fLedger.fSigns (wrap64 (a20 + 1))) else spec_l5World.l1 x0 t16 k t21.2 a18 a19 (wrap64 (a20 + 1)))) else some (a17, a18, a19))
def spec_l5World.f (k : Nat) (x0 : l1Src) : Option (Ledger × (List Coin) × Tx × Int) := ((spec_l4Right.f k x0).bind fun t23 => ((spec_l5Tx.f k (⟨x0.fCode, t23.2⟩ : l1Src) t23.1).bind fun t24 => (((spec_l1Next.f k (⟨x0.fCode, t24.2⟩ : l1Src) 3).bind fun t25 => spec_l5World.l0 x0 k t25.2 ([] : List ByteArray) ([] : List Sign) t25.1).bind (cur3 (fun a26 a27 a28 => (((spec_TxText.f k (⟨t24.1.fKind, t24.1.fMember, t24.1.fIns, t24.1.fOuts⟩ : Tx)).bind fun t29 => ((bif (t29.fCode == 0) then spec_l1Chance.f k (⟨x0.fCode, a26⟩ : l1Src) 10 else some (default, a26)).bind fun t30 => (bif ((t29.fCode == 0) && (!t30.1)) then ((spec_NoteText.f k (⟨a27, a28⟩ : Ledger) t29.fText).bind fun t16 => spec_l5World.l1 x0 t16 k t30.2 t16.fLedger.fTexts t16.fLedger.fSigns 1) else some (t30.2, a27, a28)))).bind (cur3 (fun a31 a32 a33 => some ((⟨a32, a33⟩ : Ledger), t23.1, (⟨t24.1.fKind, t24.1.fMember, t24.1.fIns, t24.1.fOuts⟩ : Tx), a31)))))))))
theorem spec_l5World.calls {k : Nat} {x0 : l1Src} {b0 : Nat} {p0_0 : Value} {w wo : World} {X : List Nat} (hwo : Olds wo w X) (hX : Hold w [box b0 78 [p0_0, nI x0.fAt]] X) (hXn : X.Nodup) (hXl : ∀ b ∈ X, b < w.heap.size) (hp0_0 : RdS kU8 wo p0_0 x0.fCode) {r : Ledger × (List Coin) × Tx × Int} (H : spec_l5World.f k x0 = some r) :
  Calls Tryz.prog 34 ([pA b0 0] : List Value).toArray w (fun e w_ => ∃ v, e = .returned v ∧ ∃ u0 : Value, ∃ u1 : Value, ∃ u2 : Value, ∃ u3 : Value, ∃ u4 : Value, v = (.tuple #[.agg #[u0, u1], u2, .agg #[nI r.2.2.1.fKind, nI r.2.2.1.fMember, u3, u4]]) ∧ Mem w X w_ [own kStr 9 u0 r.1.fTexts, own kSign 119 u1 r.1.fSigns, own kCoin 70 u2 r.2.1, own kRef 38 u3 r.2.2.1.fIns, own kOut 68 u4 r.2.2.1.fOuts, box b0 78 [p0_0, nI r.2.2.2]]) := by
 have HM := Mem.startX hX hXn hXl
 refine calls_run (N := 61) Tryz.func34 rfl rfl rfl rfl ?_
 unfold spec_l5World.f at H
 refine run_seq (run_region rfl (oz rfl (does_alloc (cs := [.slice none 0 0, .slice none 0 0]) rfl tz46 rfl HM) ?_))
 rintro _ w34 ⟨b35, rfl, HM⟩
 refine oM rfl (oz rfl (does_alloc (cs := [nI 0, nI 0, .slice none 0 0, .slice none 0 0]) rfl tz28 rfl HM) ?_)
 rintro _ w36 ⟨b37, rfl, HM⟩
 refine ops_nil (at_then (run_seq ?_))
 obtain ⟨t23, h38, H⟩ := bind_some H
 refine run_region rfl (oM rfl ?_)
 replace HM := HM.fr1 2 rfl
 obtain ⟨F39, hF40, hFn41, hFl42, HMh43, hcl44⟩ := HM.hideN 1 rfl
 refine oz rfl (does_callk rfl callok70 rfl (spec_l4Right.calls (x0 := x0) (hide_olds _ _) hF40 hFn41 hFl42 (HMh43.rdo hwo hp0_0) h38)) ?_
 rintro u45 w46 ⟨_, rfl, hn⟩
 replace HM := hcl44 _ _ _ rfl hn
 refine oM rfl (ops_nil (at_then (run_seq ?_)))
 obtain ⟨t24, h47, H⟩ := bind_some H
 refine run_region rfl (oM rfl (oM rfl ?_))
 replace HM := HM.fr1 1 rfl
 obtain ⟨F48, hF49, hFn50, hFl51, HMh52, hcl53⟩ := HM.hideN 1 rfl
 refine oz rfl (does_callk rfl callok71 rfl (spec_l5Tx.calls (x0 := (⟨x0.fCode, t23.2⟩ : l1Src)) (x1 := t23.1) (hide_olds _ _) hF49 hFn50 hFl51 (HMh52.rdo hwo hp0_0) (HMh52.own_rd 0 rfl) h47)) ?_
 rintro _ w54 ⟨u55, u56, rfl, hn⟩
 replace HM := hcl53 _ _ _ rfl hn
 refine oz rfl (does_alloc (cs := [nI 0, nI 0, .slice none 0 0, .slice none 0 0]) rfl tz28 rfl HM) ?_
 rintro _ w57 ⟨b58, rfl, HM⟩
 refine odS rfl rfl rfl (does_store (vs := [nI t24.1.fKind, nI t24.1.fMember, u55, u56]) (cs' := [nI t24.1.fKind, nI t24.1.fMember, u55, u56]) rfl rfl rfl rfl tsz28 (Ones.int (Ones.int (Ones.rd (HM.own_rd 1 rfl) (Ones.rd (HM.own_rd 2 rfl) Ones.nil)))) rfl rfl HM) ?_
 rintro w59 HM
 refine ops_nil (at_then (run_seq (run_region rfl (oy rfl (ex_build (cells := #[(.slice none 0 0), (.slice none 0 0)]) rfl rfl (by kernel_rfl)) ?_))))
 refine oz rfl (does_alloc (cs := [.slice none 0 0, .slice none 0 0]) rfl tz46 rfl HM) ?_
 rintro _ w60 ⟨b61, rfl, HM⟩
 refine odS rfl rfl rfl (does_store (vs := [.slice none 0 0, .slice none 0 0]) (cs' := [.slice none 0 0, .slice none 0 0]) rfl rfl rfl rfl tsz46 (Ones.sl (Ones.sl Ones.nil)) rfl rfl HM) ?_
 rintro w62 HM
 refine ops_nil (at_then ?_)
 obtain ⟨o63, ho64, H⟩ := bind_some H
 refine run_mid (fun ρ_ w_ => ∃ a26 : Int, ∃ v65 : Value, ∃ a27 : List ByteArray, ∃ v66 : Value, ∃ a28 : List Sign, (a26, a27, a28) = o63 ∧ ρ_ = [(0, pA b0 0), (2, pA b35 0), (4, pA b37 0), (5, u45), (6, pA b58 0), (7, pA b61 0)] ∧ Mem w X w_ [box b0 78 [p0_0, nI a26], box b35 46 [.slice none 0 0, .slice none 0 0], box b37 28 [nI 0, nI 0, .slice none 0 0, .slice none 0 0], own kCoin 70 u45 t23.1, box b58 28 [nI t24.1.fKind, nI t24.1.fMember, u55, u56], own kRef 38 u55 t24.1.fIns, own kOut 68 u56 t24.1.fOuts, box b61 46 [v65, v66], own kStr 9 v65 a27, own kSign 119 v66 a28]) ?_ ?_
 ·clear H
  refine run_seq ?_
  obtain ⟨t25, h67, ho64⟩ := bind_some ho64
  refine run_region rfl (oM rfl ?_)
  replace HM := HM.fr1 4 rfl
  obtain ⟨F68, hF69, hFn70, hFl71, HMh72, hcl73⟩ := HM.hideN 1 rfl
  refine oz rfl (does_callk rfl callok16 rfl (spec_l1Next.calls (x0 := (⟨x0.fCode, t24.2⟩ : l1Src)) (x1 := 3) (hide_olds _ _) hF69 hFn70 hFl71 (HMh72.rdo hwo hp0_0) h67)) ?_
  rintro _ w74 ⟨rfl, hn⟩
  replace HM := hcl73 _ _ _ rfl hn
  refine oM rfl (ops_nil (at_then (run_block ?_)))
  replace HM := HM.empty kStr 9 none
  replace HM := ((HM.empty kSign 119 none).fr1 1 rfl).fr1 3 rfl
  replace HM := ((HM.fr1 6 rfl).fr1 6 rfl).fr1 6 rfl
  replace HM := ((HM.fr1 7 rfl).fr1 8 rfl).fr1 9 rfl
  replace HM := HM.fr1 9 rfl
  refine run_loop (fun k_ ρ_ w_ => ∃ a10 : Int, ∃ v75 : Value, ∃ a11 : List ByteArray, ∃ v76 : Value, ∃ a12 : List Sign, ∃ a13 : Int, spec_l5World.l0 x0 k_ a10 a11 a12 a13 = some o63 ∧ ρ_ = [(0, pA b0 0), (2, pA b35 0), (4, pA b37 0), (5, u45), (6, pA b58 0), (7, pA b61 0), (8, nI a13)] ∧ Mem w X w_ [box b0 78 [p0_0, nI a10], box b35 46 [.slice none 0 0, .slice none 0 0], box b37 28 [nI 0, nI 0, .slice none 0 0, .slice none 0 0], own kCoin 70 u45 t23.1, box b58 28 [nI t24.1.fKind, nI t24.1.fMember, u55, u56], own kRef 38 u55 t24.1.fIns, own kOut 68 u56 t24.1.fOuts, box b61 46 [v75, v76], own kStr 9 v75 a11, own kSign 119 v76 a12]) k ⟨_, _, _, _, _, _, ho64, rfl, HM⟩ (Sub.of rfl) ?_
  clear HM ho64
  rintro k77 _ w78 ⟨a10, v75, a11, v76, a12, a13, ho64, rfl, HM⟩
  obtain _ | k77 := k77
  ·exact nomatch ((spec_l5World.l0.eq_1 x0 a10 a11 a12 a13).symm.trans ho64)
  replace ho64 := (spec_l5World.l0.eq_2 ..).symm.trans ho64
  refine run_seq (run_seq (run_region rfl (oM rfl (oy rfl (ex_gtr rfl rfl rfl) (ops_nil (at_then (run_cond (b := (decide (0 < a13))) rfl (fun hb79 => ?_) (fun hb79 => ?_))))))))
  ·replace ho64 := cond_t hb79 ho64
   refine run_skip (at_then (run_seq (run_block ?_)))
   obtain ⟨t14, h80, ho64⟩ := bind_some ho64
   obtain ⟨t15, h81, ho64⟩ := bind_some ho64
   refine run_meet (fun ρ_ w_ => ∃ u82 : Value, ∃ u83 : Value, ρ_ = [(0, pA b0 0), (2, pA b35 0), (4, pA b37 0), (5, u45), (6, pA b58 0), (7, pA b61 0), (8, nI a13)] ∧ Mem w X w_ [box b0 78 [p0_0, nI t14.2], box b35 46 [.slice none 0 0, .slice none 0 0], box b37 28 [nI 0, nI 0, .slice none 0 0, .slice none 0 0], own kCoin 70 u45 t23.1, box b58 28 [nI t24.1.fKind, nI t24.1.fMember, u55, u56], own kRef 38 u55 t24.1.fIns, own kOut 68 u56 t24.1.fOuts, box b61 46 [u82, u83], own kStr 9 u82 t15.fLedger.fTexts, own kSign 119 u83 t15.fLedger.fSigns]) ?_ ?_
   ·replace HM := (HM.fr1 7 rfl).fr1 1 rfl
    refine run_draw (fun w_ => Mem w X w_ [box b35 46 [.slice none 0 0, .slice none 0 0], box b37 28 [nI 0, nI 0, .slice none 0 0, .slice none 0 0], own kCoin 70 u45 t23.1, box b58 28 [nI t24.1.fKind, nI t24.1.fMember, u55, u56], own kRef 38 u55 t24.1.fIns, own kOut 68 u56 t24.1.fOuts, own kStr 9 v75 a11, own kSign 119 v76 a12]) mixed rfl (l := #[false, false, false, false, false, false]) rfl ?_
    replace HM := HM.grow (fr_drew _)
    have hS := HM.sufN 2 rfl
    refine drw_cut0 (l' := #[true, true, true, false, false, false]) (f' := 3) ([(0, pA b0 0), (2, pA b35 0), (4, pA b37 0), (5, u45), (6, pA b58 0), (7, pA b61 0), (8, nI a13), (24, .agg #[v75, v76]), (26, .string t14.1)]) (fun w_ => Mem w X w_ [box b0 78 [p0_0, nI t14.2], box b61 46 [v75, v76], box b35 46 [.slice none 0 0, .slice none 0 0], box b37 28 [nI 0, nI 0, .slice none 0 0, .slice none 0 0], own kCoin 70 u45 t23.1, box b58 28 [nI t24.1.fKind, nI t24.1.fMember, u55, u56], own kRef 38 u55 t24.1.fIns, own kOut 68 u56 t24.1.fOuts, own kStr 9 v75 a11, own kSign 119 v76 a12]) ?_ (fun K84 => ?_)
    ·rintro w85 HM
     have hS := HM.sufN 2 rfl
     refine drw_any [3] (by kernel_rfl) rfl (.cons ?_ .nil)
     refine br_does (l' := #[true, true, true, true, false, false]) rfl (guard_none rfl) rfl rfl (by kernel_rfl) (does_callk rfl callok72 rfl (spec_NoteText.calls (x0 := (⟨a11, a12⟩ : Ledger)) (x1 := t14.1) (HM.own_rd 8 rfl) (HM.own_rd 9 rfl) h81)) ?_
     rintro _ w86 ⟨u82, u83, rfl, hn⟩
     replace HM := HM.callN hn rfl
     have hS := HM.sufN 4 rfl
     refine ⟨hS, (dt 4 #[true, true, true, true, true, false] rfl rfl rfl rfl (by kernel_rfl) (ex_fieldN (us := #[u82, u83]) rfl rfl U110 rfl U46 rfl tsz46 rfl) hS ?_)⟩
     replace HM := HM.fr1 3 rfl
     refine drw_any [5] (by kernel_rfl) rfl (.cons ?_ .nil)
     refine br_doesS (l' := #[true, true, true, true, true, true]) rfl (guard_none rfl) rfl (by kernel_rfl) (does_store (vs := [u82, u83]) (cs' := [u82, u83]) rfl rfl rfl rfl tsz46 (Ones.rd (HM.own_rd 1 rfl) (Ones.rd (HM.own_rd 2 rfl) Ones.nil)) rfl rfl HM) ?_
     rintro w87 HM
     have hS := HM.sufN 4 rfl
     refine ⟨hS, (drw_done (by kernel_rfl) ?_)⟩
     replace HM := ((HM.frd 10 rfl).frd 10 rfl).fr1 2 rfl
     replace HM := ((HM.fr1 2 rfl).fr1 2 rfl).fr1 9 rfl
     replace HM := ((HM.fr1 9 rfl).fr1 9 rfl).fr1 9 rfl
     replace HM := ((HM.fr1 9 rfl).fr1 9 rfl).fr1 9 rfl
     exact at_meet _ ⟨_, _, rfl, HM⟩ (Sub.of rfl)
    refine dt 1 #[false, true, false, false, false, false] rfl rfl rfl rfl (by kernel_rfl) (ex_move rfl rfl) hS ?_
    refine drw_any [0, 2] (by kernel_rfl) rfl (.cons ?_ (.cons ?_ .nil))
    ·refine br_does (l' := #[true, true, false, false, false, false]) rfl (guard_none rfl) rfl rfl (by kernel_rfl) (does_ex' (ldN rfl rfl U46 rfl tsz46 ((HM.box_at 1 rfl).subL 0 2 rfl) rfl)) ?_
     rintro _ _ ⟨rfl, rfl⟩
     refine ⟨hS, ?_⟩
     obtain ⟨F88, hF89, hFn90, hFl91, HMh92, hcl93⟩ := HM.hideN 1 rfl
     refine drw_any [2] (by kernel_rfl) rfl (.cons ?_ .nil)
     refine br_does (l' := #[true, true, true, false, false, false]) rfl (guard_none rfl) rfl rfl (by kernel_rfl) (does_callk rfl callok73 rfl (spec_l1Word.calls (x0 := (⟨x0.fCode, a10⟩ : l1Src)) (hide_olds _ _) hF89 hFn90 hFl91 (HMh92.rdo hwo hp0_0) h80)) ?_
     rintro _ w94 ⟨rfl, hn⟩
     replace HM := hcl93 _ _ _ rfl hn
     have hS := HM.sufN 2 rfl
     exact ⟨hS, (drw_sub (K84 _ HM) (Sub.of rfl))⟩
    ·obtain ⟨F88, hF89, hFn90, hFl91, HMh92, hcl93⟩ := HM.hideN 1 rfl
     refine br_does (l' := #[false, true, true, false, false, false]) rfl (guard_none rfl) rfl rfl (by kernel_rfl) (does_callk rfl callok73 rfl (spec_l1Word.calls (x0 := (⟨x0.fCode, a10⟩ : l1Src)) (hide_olds _ _) hF89 hFn90 hFl91 (HMh92.rdo hwo hp0_0) h80)) ?_
     rintro _ w95 ⟨rfl, hn⟩
     replace HM := hcl93 _ _ _ rfl hn
     have hS := HM.sufN 2 rfl
     refine ⟨hS, (drw_any [0] (by kernel_rfl) rfl (.cons ?_ .nil))⟩
     refine br_does (l' := #[true, true, true, false, false, false]) rfl (guard_none rfl) rfl rfl (by kernel_rfl) (does_ex' (ldN rfl rfl U46 rfl tsz46 ((HM.box_at 1 rfl).subL 0 2 rfl) rfl)) ?_
     rintro _ _ ⟨rfl, rfl⟩
     exact ⟨hS, (drw_sub (K84 _ HM) (Sub.of rfl))⟩
   ·rintro _ w96 ⟨u82, u83, rfl, HM⟩
    exact at_block (at_then (run_region rfl (oM rfl (oy rfl (ex_sub rfl rfl rfl) (oM rfl (ops_nil (at_again k77 (Nat.lt_succ_self _) ⟨_, _, _, _, _, _, ho64, rfl, HM⟩ (Sub.of rfl))))))))
  ·replace ho64 := cond_f hb79 ho64
   exact run_exit (at_then_exit (at_then_exit (at_block_exit (at_mid ⟨_, _, _, _, _, (sj ho64), rfl, HM⟩ (Sub.of rfl)))))
 ·rintro _ w97 ⟨a26, v65, a27, v66, a28, rfl, rfl, HM⟩
  replace H := cur3_mk H
  obtain ⟨o98, ho99, H⟩ := bind_some H
  refine run_mid (fun ρ_ w_ => ∃ a31 : Int, ∃ v100 : Value, ∃ a32 : List ByteArray, ∃ v101 : Value, ∃ a33 : List Sign, (a31, a32, a33) = o98 ∧ ρ_ = [(2, pA b35 0), (4, pA b37 0), (5, u45), (6, pA b58 0), (7, pA b61 0)] ∧ Mem w X w_ [box b0 78 [p0_0, nI a31], box b35 46 [.slice none 0 0, .slice none 0 0], box b37 28 [nI 0, nI 0, .slice none 0 0, .slice none 0 0], own kCoin 70 u45 t23.1, box b58 28 [nI t24.1.fKind, nI t24.1.fMember, u55, u56], own kRef 38 u55 t24.1.fIns, own kOut 68 u56 t24.1.fOuts, box b61 46 [v100, v101], own kStr 9 v100 a32, own kSign 119 v101 a33]) ?_ ?_
  ·clear H
   refine run_seq ?_
   obtain ⟨t29, h102, ho99⟩ := bind_some ho99
   refine run_region rfl (oy rfl (ldN rfl rfl U28 rfl tsz28 ((HM.box_at 4 rfl).subL 0 4 rfl) rfl) (oz rfl (does_callk rfl callok74 rfl (spec_TxText.calls (x0 := (⟨t24.1.fKind, t24.1.fMember, t24.1.fIns, t24.1.fOuts⟩ : Tx)) (HM.own_rd 5 rfl) (HM.own_rd 6 rfl) h102)) ?_))
   rintro _ w103 ⟨rfl, hn⟩
   replace HM := HM.callN hn rfl
   refine oz rfl (does_alloc (cs := [nI 0, .string (⟨#[]⟩ : ByteArray)]) rfl tz114 rfl HM) ?_
   rintro _ w104 ⟨b105, rfl, HM⟩
   refine odS rfl rfl rfl (does_store (vs := [nI t29.fCode, .string t29.fText]) (cs' := [nI t29.fCode, .string t29.fText]) rfl rfl rfl rfl tsz114 (Ones.int (Ones.str Ones.nil)) rfl rfl HM) ?_
   rintro w106 HM
   refine ops_nil (at_then (run_seq ?_))
   obtain ⟨t30, h107, ho99⟩ := bind_some ho99
   refine run_meet (fun ρ_ w_ => ρ_ = [(0, pA b0 0), (2, pA b35 0), (4, pA b37 0), (5, u45), (6, pA b58 0), (7, pA b61 0), (9, pA b105 0), (38, .bool ((t29.fCode == 0) && (!t30.1)))] ∧ Mem w X w_ [box b0 78 [p0_0, nI t30.2], box b35 46 [.slice none 0 0, .slice none 0 0], box b37 28 [nI 0, nI 0, .slice none 0 0, .slice none 0 0], own kCoin 70 u45 t23.1, box b58 28 [nI t24.1.fKind, nI t24.1.fMember, u55, u56], own kRef 38 u55 t24.1.fIns, own kOut 68 u56 t24.1.fOuts, box b61 46 [v65, v66], own kStr 9 v65 a27, own kSign 119 v66 a28, box b105 114 [nI t29.fCode, .string t29.fText]]) ?_ ?_
   ·refine run_region rfl (oy rfl (ex_fieldAddr (off' := 0) rfl rfl U114 rfl tsz2 rfl) (oy rfl (ex_load1 rfl rfl U2 rfl ((HM.box_at 0 rfl) 0 _ rfl)) (oy rfl (ex_eql rfl rfl rfl) (oM rfl ?_))))
    refine bool_cases (t29.fCode == 0) (fun hg108 => ?_) (fun hg108 => ?_)
    ·refine gn rfl hg108 (ex_move rfl rfl) ?_
     replace HM := HM.fr1 1 rfl
     obtain ⟨F109, hF110, hFn111, hFl112, HMh113, hcl114⟩ := HM.hideN 1 rfl
     refine ops_does rfl (guard_on rfl rfl rfl hg108) rfl rfl (does_callk rfl callok75 rfl (spec_l1Chance.calls (x0 := (⟨x0.fCode, a26⟩ : l1Src)) (x1 := 10) (hide_olds _ _) hF110 hFn111 hFl112 (HMh113.rdo hwo hp0_0) (cond_t hg108 h107))) ?_
     rintro _ w115 ⟨rfl, hn⟩
     replace HM := hcl114 _ _ _ rfl hn
     refine gn rfl hg108 (ex_not rfl rfl) (ops_ex (v := .bool ((t29.fCode == 0) && (!t30.1))) rfl (guard_none rfl) rfl rfl (ex_pand_t rfl rfl hg108 rfl) (ops_nil ?_))
     replace HM := ((HM.fr1 1 rfl).fr1 10 rfl).fr1 10 rfl
     replace HM := ((HM.fr1 10 rfl).fr1 10 rfl).fr1 10 rfl
     replace HM := ((HM.fr1 10 rfl).fr1 10 rfl).fr1 10 rfl
     replace HM := (HM.fr1 10 rfl).fr1 10 rfl
     exact at_meet _ ⟨rfl, HM⟩ (Sub.of rfl)
    ·refine gf rfl hg108 (gf rfl hg108 ?_)
     have hq116 : t30 = (default, a26) := (sj (cond_f hg108 h107)).symm
     replace HM := HM.as (M' := [box b105 114 [nI t29.fCode, .string t29.fText], box b0 78 [p0_0, nI t30.2], box b35 46 [.slice none 0 0, .slice none 0 0], box b37 28 [nI 0, nI 0, .slice none 0 0, .slice none 0 0], own kCoin 70 u45 t23.1, box b58 28 [nI t24.1.fKind, nI t24.1.fMember, u55, u56], own kRef 38 u55 t24.1.fIns, own kOut 68 u56 t24.1.fOuts, box b61 46 [v65, v66], own kStr 9 v65 a27, own kSign 119 v66 a28]) (by simp only [hq116])
     refine gf rfl hg108 ?_
     have hg117 : ((t29.fCode == 0) && (!t30.1)) = false := by simp only [hg108, Bool.and_true, Bool.true_and, Bool.and_false, Bool.false_and, Bool.or_true, Bool.true_or, Bool.or_false, Bool.false_or, Bool.not_true, Bool.not_false, Bool.not_not]
     refine ops_ex (v := .bool ((t29.fCode == 0) && (!t30.1))) rfl (guard_none rfl) rfl rfl (ex_pand_f rfl rfl hg108) (ops_nil ?_)
     replace HM := ((HM.fr1 10 rfl).fr1 10 rfl).fr1 10 rfl
     replace HM := ((HM.fr1 10 rfl).fr1 10 rfl).fr1 10 rfl
     replace HM := ((HM.fr1 10 rfl).fr1 10 rfl).fr1 10 rfl
     replace HM := HM.fr1 10 rfl
     exact at_meet _ ⟨rfl, HM⟩ (Sub.of rfl)
   ·rintro _ w118 ⟨rfl, HM⟩
    refine at_then (run_cond (b := ((t29.fCode == 0) && (!t30.1))) rfl (fun hb119 => ?_) (fun hb119 => ?_))
    ·replace ho99 := cond_t hb119 ho99
     refine run_seq ?_
     obtain ⟨t16, h120, ho99⟩ := bind_some ho99
     refine run_region rfl (oy rfl (ldN rfl rfl U46 rfl tsz46 ((HM.box_at 7 rfl).subL 0 2 rfl) rfl) (oy rfl (ex_fieldAddr (off' := 1) rfl rfl U114 rfl tsz9 rfl) (oy rfl (ex_load1 rfl rfl U9 rfl ((HM.box_at 10 rfl) 1 _ rfl)) (oz rfl (does_callk rfl callok72 rfl (spec_NoteText.calls (x0 := (⟨a27, a28⟩ : Ledger)) (x1 := t29.fText) (HM.own_rd 8 rfl) (HM.own_rd 9 rfl) h120)) ?_))))
     rintro _ w121 ⟨u122, u123, rfl, hn⟩
     replace HM := HM.callN hn rfl
     refine oz rfl (does_alloc (cs := [nI 0, nI 0, .slice none 0 0, .slice none 0 0]) rfl tz110 rfl HM) ?_
     rintro _ w124 ⟨b125, rfl, HM⟩
     refine odS rfl rfl rfl (does_store (vs := [nI t16.fCode, nI t16.fId, u122, u123]) (cs' := [nI t16.fCode, nI t16.fId, u122, u123]) rfl rfl rfl rfl tsz110 (Ones.int (Ones.int (Ones.rd (HM.own_rd 1 rfl) (Ones.rd (HM.own_rd 2 rfl) Ones.nil)))) rfl rfl HM) ?_
     rintro w126 HM
     refine ops_nil (at_then (run_seq (run_region rfl (oy rfl (ex_fieldAddr (off' := 2) rfl rfl U110 rfl tsz46 rfl) (oy rfl (ldN rfl rfl U46 rfl tsz46 ((HM.box_at 0 rfl).subL 2 2 rfl) rfl) ?_)))))
     replace HM := HM.fr1 10 rfl
     refine odS rfl rfl rfl (does_store (vs := [u122, u123]) (cs' := [u122, u123]) rfl rfl rfl rfl tsz46 (Ones.rd (HM.own_rd 2 rfl) (Ones.rd (HM.own_rd 3 rfl) Ones.nil)) rfl rfl HM) ?_
     rintro w127 HM
     refine ops_nil (at_then (run_seq (run_region rfl (oM rfl (ops_nil (at_then (run_block ?_)))))))
     have hi128 : IsSl u122 := RdS.isSl (HM.own_rd 2 rfl)
     have hi129 : IsSl u123 := RdS.isSl (HM.own_rd 3 rfl)
     replace HM := ((HM.frd 11 rfl).frd 11 rfl).frd 11 rfl
     replace HM := ((HM.fr1 1 rfl).fr1 3 rfl).fr1 3 rfl
     replace HM := ((HM.fr1 3 rfl).fr1 10 rfl).fr1 10 rfl
     replace HM := ((HM.fr1 10 rfl).fr1 10 rfl).fr1 10 rfl
     replace HM := (HM.fr1 10 rfl).fr1 10 rfl
     refine run_loop (fun k_ ρ_ w_ => ∃ a17 : Int, ∃ v130 : Value, ∃ a18 : List ByteArray, ∃ v131 : Value, ∃ a19 : List Sign, ∃ a20 : Int, spec_l5World.l1 x0 t16 k_ a17 a18 a19 a20 = some o98 ∧ ρ_ = [(0, pA b0 0), (2, pA b35 0), (4, pA b37 0), (5, u45), (6, pA b58 0), (7, pA b61 0), (10, pA b125 0), (11, nI a20)] ∧ Mem w X w_ [box b0 78 [p0_0, nI a17], box b35 46 [.slice none 0 0, .slice none 0 0], box b37 28 [nI 0, nI 0, .slice none 0 0, .slice none 0 0], own kCoin 70 u45 t23.1, box b58 28 [nI t24.1.fKind, nI t24.1.fMember, u55, u56], own kRef 38 u55 t24.1.fIns, own kOut 68 u56 t24.1.fOuts, box b61 46 [v130, v131], own kStr 9 v130 a18, own kSign 119 v131 a19, box b125 110 [nI t16.fCode, nI t16.fId, u122, u123]]) k ⟨_, _, _, _, _, _, ho99, rfl, HM⟩ (Sub.of rfl) ?_
     clear HM ho99
     rintro k132 _ w133 ⟨a17, v130, a18, v131, a19, a20, ho99, rfl, HM⟩
     obtain _ | k132 := k132
     ·exact nomatch ((spec_l5World.l1.eq_1 x0 t16 a17 a18 a19 a20).symm.trans ho99)
     replace ho99 := (spec_l5World.l1.eq_2 ..).symm.trans ho99
     refine run_seq (run_seq (run_region rfl (oM rfl (oy rfl (ex_lss rfl rfl rfl) (ops_nil (at_then (run_cond (b := (decide (a20 < 7))) rfl (fun hb134 => ?_) (fun hb134 => ?_))))))))
     ·replace ho99 := cond_t hb134 ho99
      refine run_skip (at_then (run_seq (run_block (run_seq ?_))))
      obtain ⟨t21, h135, ho99⟩ := bind_some ho99
      refine run_region rfl (oM rfl ?_)
      obtain ⟨F136, hF137, hFn138, hFl139, HMh140, hcl141⟩ := HM.hideN 1 rfl
      refine oz rfl (does_callk rfl callok75 rfl (spec_l1Chance.calls (x0 := (⟨x0.fCode, a17⟩ : l1Src)) (x1 := 8) (hide_olds _ _) hF137 hFn138 hFl139 (HMh140.rdo hwo hp0_0) h135)) ?_
      rintro _ w142 ⟨rfl, hn⟩
      replace HM := hcl141 _ _ _ rfl hn
      refine oy rfl (ex_not rfl rfl) (ops_nil (at_then (run_cond (b := !t21.1) rfl (fun hb143 => ?_) (fun hb143 => ?_))))
      ·replace ho99 := cond_t hb143 ho99
       obtain ⟨t22, h144, ho99⟩ := bind_some ho99
       refine run_region rfl (oy rfl (ldN rfl rfl U46 rfl tsz46 ((HM.box_at 7 rfl).subL 0 2 rfl) rfl) (oM rfl (oy rfl (ex_fieldAddr (off' := 1) rfl rfl U110 rfl tsz2 rfl) (oy rfl (ex_load1 rfl rfl U2 rfl ((HM.box_at 10 rfl) 1 _ rfl)) (oz rfl (does_callk rfl callok76 rfl (spec_SignId.calls (x0 := (⟨a18, a19⟩ : Ledger)) (x1 := a20) (x2 := t16.fId) (HM.own_rd 8 rfl) (HM.own_rd 9 rfl) h144)) ?_)))))
       rintro _ w145 ⟨u146, u147, rfl, hn⟩
       replace HM := HM.callN hn rfl
       refine oy rfl (ex_fieldN (us := #[u146, u147]) rfl rfl U110 rfl U46 rfl tsz46 rfl) ?_
       replace HM := HM.fr1 9 rfl
       refine odS rfl rfl rfl (does_store (vs := [u146, u147]) (cs' := [u146, u147]) rfl rfl rfl rfl tsz46 (Ones.rd (HM.own_rd 1 rfl) (Ones.rd (HM.own_rd 2 rfl) Ones.nil)) rfl rfl HM) ?_
       rintro w148 HM
       refine ops_nil (at_block (at_then (run_region rfl (oM rfl (oy rfl (ex_add rfl rfl rfl) (oM rfl (ops_nil ?_)))))))
       replace HM := ((HM.frd 10 rfl).frd 10 rfl).fr1 10 rfl
       replace HM := ((HM.fr1 3 rfl).fr1 3 rfl).fr1 3 rfl
       replace HM := ((HM.fr1 10 rfl).fr1 10 rfl).fr1 10 rfl
       replace HM := ((HM.fr1 10 rfl).fr1 10 rfl).fr1 10 rfl
       replace HM := HM.fr1 10 rfl
       exact at_again k132 (Nat.lt_succ_self _) ⟨_, _, _, _, _, _, ho99, rfl, HM⟩ (Sub.of rfl)
      ·replace ho99 := cond_f hb143 ho99
       exact run_skip (at_block (at_then (run_region rfl (oM rfl (oy rfl (ex_add rfl rfl rfl) (oM rfl (ops_nil (at_again k132 (Nat.lt_succ_self _) ⟨_, _, _, _, _, _, ho99, rfl, HM⟩ (Sub.of rfl)))))))))
     ·replace ho99 := cond_f hb134 ho99
      refine run_exit (at_then_exit (at_then_exit (at_block_exit ?_)))
      replace HM := HM.frd 10 rfl
      exact at_mid ⟨_, _, _, _, _, (sj ho99), rfl, HM⟩ (Sub.of rfl)
    ·replace ho99 := cond_f hb119 ho99
     refine run_skip ?_
     replace HM := HM.frd 10 rfl
     exact at_mid ⟨_, _, _, _, _, (sj ho99), rfl, HM⟩ (Sub.of rfl)
  ·rintro _ w149 ⟨a31, v100, a32, v101, a33, rfl, rfl, HM⟩
   replace H := cur3_mk H
   refine run_seq ?_
   replace HM := (HM.fr1 2 rfl).fr1 2 rfl
   refine run_drawf (fun w_ => Mem w X w_ [box b0 78 [p0_0, nI a31], own kCoin 70 u45 t23.1, box b58 28 [nI t24.1.fKind, nI t24.1.fMember, u55, u56], own kRef 38 u55 t24.1.fIns, own kOut 68 u56 t24.1.fOuts, box b61 46 [v100, v101], own kStr 9 v100 a32, own kSign 119 v101 a33]) [(0, true), (1, true), (2, true), (3, false), (4, true), (5, false)] mixed rfl rfl (by kernel_rfl) ?_
   replace HM := HM.grow (fr_drew _)
   have hS := HM.sufN 2 rfl
   refine drwp_take rfl (guard_none rfl) rfl rfl (fun w_ hS_ => (ldN rfl rfl U46 rfl tsz46 ((hS_.box_at 5 rfl).subL 0 2 rfl) rfl)) hS (dp rfl rfl rfl rfl (ex_move rfl rfl) hS (drwp_take rfl (guard_none rfl) rfl rfl (fun w_ hS_ => (ldN rfl rfl U28 rfl tsz28 ((hS_.box_at 2 rfl).subL 0 4 rfl) rfl)) hS (drwp_oneS rfl (guard_none rfl) rfl (does_store (vs := [v100, v101]) (cs' := [v100, v101]) rfl rfl rfl rfl tsz46 (Ones.rd (HM.own_rd 8 rfl) (Ones.rd (HM.own_rd 9 rfl) Ones.nil)) rfl rfl HM) ?_)))
   rintro w150 HM
   have hS := HM.sufN 2 rfl
   refine ⟨hS, (dp rfl rfl rfl rfl (ex_assign rfl rfl) hS ?_)⟩
   replace HM := HM.fr1 1 rfl
   refine drwp_oneS rfl (guard_none rfl) rfl (does_store (vs := [nI t24.1.fKind, nI t24.1.fMember, u55, u56]) (cs' := [nI t24.1.fKind, nI t24.1.fMember, u55, u56]) rfl rfl rfl rfl tsz28 (Ones.int (Ones.int (Ones.rd (HM.own_rd 5 rfl) (Ones.rd (HM.own_rd 6 rfl) Ones.nil)))) rfl rfl HM) ?_
   rintro w151 HM
   have hS := HM.sufN 2 rfl
   refine ⟨hS, (drwp_done (at_then (run_ret ?_)))⟩
   replace HM := ((HM.frd 4 rfl).frd 6 rfl).fr1 2 rfl
   replace HM := ((HM.fr1 5 rfl).fr1 5 rfl).fr1 5 rfl
   replace HM := ((HM.fr1 7 rfl).fr1 7 rfl).fr1 6 rfl
   replace HM := HM.fr1 7 rfl
   have hcb0 := HM.box_at 0 rfl
   have hcb1 := HM.box_at 1 rfl
   replace HM := (HM.frd 0 rfl).frd 0 rfl
   cases H
   exact at_rets rfl (Rs.cell rfl U46 rfl tsz46 rfl hcb0 (Rs.tmp rfl (Rs.cell rfl U28 rfl tsz28 rfl hcb1 Rs.nil))) rfl ⟨_, rfl, _, _, _, _, _, rfl, HM⟩
end Go.Proofs.YtecgbhfgkkpmhacGreat.Zk
