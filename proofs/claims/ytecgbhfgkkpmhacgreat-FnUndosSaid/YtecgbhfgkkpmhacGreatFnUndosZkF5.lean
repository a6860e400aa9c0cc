/- What functions of the program compute, each as a plain function, and that they do. Conditions: as each theorem states them. -/
import Derived.Test.YtecgbhfgkkpmhacGreatFnUndosZkF4
namespace Go.Proofs.YtecgbhfgkkpmhacGreat.Zk
open Go Go.RowKit Go.IntWalk Go.Proofs
set_option linter.unusedVariables false
set_option linter.unusedSimpArgs false
set_option maxRecDepth 100000
set_option maxHeartbeats 4000000
def spec_l1Copy.f (k : Nat) (x0 : Ledger) : Option Ledger := (chk (leB ((([] : List ByteArray).length + x0.fTexts.length) * 16) 140737488355328) (chk (leB ((([] : List Sign).length + x0.fSigns.length) * 16) 140737488355328) (some (⟨([] : List ByteArray) ++ x0.fTexts, ([] : List Sign) ++ x0.fSigns⟩ : Ledger))))
theorem spec_l1Copy.calls {k : Nat} {x0 : Ledger} {p0_0 : Value} {p0_1 : Value} {w : World} (hp0_0 : RdS kStr w p0_0 x0.fTexts) (hp0_1 : RdS kSign w p0_1 x0.fSigns) {r : Ledger} (H : spec_l1Copy.f k x0 = some r) :
  Calls Tryz.prog 108 ([.agg #[p0_0, p0_1]] : List Value).toArray w (fun e w_ => ∃ v, e = .returned v ∧ ∃ u0 : Value, ∃ u1 : Value, v = (.agg #[u0, u1]) ∧ Mem w [] w_ [own kStr 9 u0 r.fTexts, own kSign 119 u1 r.fSigns]) := by
 have HM := Mem.start w
 refine calls_run (N := 12) Tryz.func108 rfl rfl rfl rfl ?_
 unfold spec_l1Copy.f at H
 refine run_seq (run_region rfl (oz rfl (does_box (cs := [p0_0, p0_1]) rfl rfl rfl HM) ?_))
 rintro _ w10 ⟨b11, rfl, HM⟩
 refine oz rfl (does_alloc (cs := [.slice none 0 0, .slice none 0 0]) rfl tz46 rfl HM) ?_
 rintro _ w12 ⟨b13, rfl, HM⟩
 refine ops_nil (at_then (run_seq ?_))
 obtain ⟨e14, H⟩ := chk_some H
 obtain ⟨e15, H⟩ := chk_some H
 refine run_meet (fun ρ_ w_ => ∃ v16 : Value, ∃ v17 : Value, ρ_ = [(2, pA b13 0)] ∧ Mem w [] w_ [box b13 46 [v16, v17], own kStr 9 v16 (([] : List ByteArray) ++ x0.fTexts), own kSign 119 v17 (([] : List Sign) ++ x0.fSigns)]) ?_ ?_
 ·refine run_draw (fun w_ => Mem w [] w_ [box b11 46 [p0_0, p0_1]]) mixed rfl (l := #[false, false, false, false, false, false, false, false, false, false]) rfl ?_
  replace HM := HM.grow (fr_drew _)
  have hS := HM.sufN 1 rfl
  refine drw_cut2 (l' := #[true, true, true, true, true, true, true, false, false, false]) (f' := 3) (fun (v16 : Value) => fun (v18 : Value) => [(2, pA b13 0), (9, p0_1), (6, v16), (7, v18)]) (fun (v16 : Value) => fun (v18 : Value) => fun w_ => Mem w [] w_ [own kSign 119 v18 ([] : List Sign), own kStr 9 v16 (([] : List ByteArray) ++ x0.fTexts), box b13 46 [.slice none 0 0, .slice none 0 0], box b11 46 [p0_0, p0_1]]) ?_ (fun K19 => ?_)
  ·rintro v16 v18 w20 HM
   have hS := HM.sufN 3 rfl
   refine drw_any [7] (by kernel_rfl) rfl (.cons ?_ .nil)
   refine br_does (l' := #[true, true, true, true, true, true, true, true, false, false]) rfl (guard_none rfl) rfl rfl (by kernel_rfl) (does_appendR kSign flat_plain rfl rfl rfl U44 tsz119 rfl tby119 tz119 rfl rfl (leB_le e15) (HM.rd hp0_1) HM) ?_
   rintro v17 w21 HM
   have hS := HM.sufN 3 rfl
   refine ⟨hS, (dt 8 #[true, true, true, true, true, true, true, true, true, false] rfl rfl rfl rfl (by kernel_rfl) (ex_build2 (fun v16 v17 => [(0, v16), (1, v17)]) (fun v16 v17 => #[v16, v17]) rfl rfl (fun _ _ _ _ _ _ => by kernel_rfl) (HM.own_rd 1 rfl).isSl (HM.own_rd 0 rfl).isSl) hS ?_)⟩
   replace HM := HM.fr1 2 rfl
   refine drw_any [9] (by kernel_rfl) rfl (.cons ?_ .nil)
   refine br_doesS (l' := #[true, true, true, true, true, true, true, true, true, true]) rfl (guard_none rfl) rfl (by kernel_rfl) (does_store (vs := [v16, v17]) (cs' := [v16, v17]) rfl rfl rfl rfl tsz46 (Ones.rd (HM.own_rd 2 rfl) (Ones.rd (HM.own_rd 1 rfl) Ones.nil)) rfl rfl HM) ?_
   rintro w22 HM
   have hS := HM.sufN 3 rfl
   refine ⟨hS, (drw_done (by kernel_rfl) ?_)⟩
   replace HM := ((HM.frd 3 rfl).fr1 1 rfl).fr1 2 rfl
   replace HM := HM.fr1 2 rfl
   exact at_meet _ ⟨_, _, rfl, HM⟩ (Sub.of rfl)
  refine drw_cut2 (l' := #[true, true, true, false, true, true, true, false, false, false]) (f' := 4) (fun (v23 : Value) => fun (v18 : Value) => [(2, pA b13 0), (5, p0_0), (9, p0_1), (3, v23), (7, v18)]) (fun (v23 : Value) => fun (v18 : Value) => fun w_ => Mem w [] w_ [own kSign 119 v18 ([] : List Sign), own kStr 9 v23 ([] : List ByteArray), box b13 46 [.slice none 0 0, .slice none 0 0], box b11 46 [p0_0, p0_1]]) ?_ (fun K24 => ?_)
  ·rintro v23 v18 w25 HM
   have hS := HM.sufN 3 rfl
   replace HM := HM.fr1 1 rfl
   refine drw_any [3] (by kernel_rfl) rfl (.cons ?_ .nil)
   refine br_does (l' := #[true, true, true, true, true, true, true, false, false, false]) rfl (guard_none rfl) rfl rfl (by kernel_rfl) (does_appendR kStr flat_plain rfl rfl rfl U43 tsz9 rfl tby9 tz9 rfl rfl (leB_le e14) (HM.rd hp0_0) HM) ?_
   rintro v16 w26 HM
   have hS := HM.sufN 3 rfl
   refine ⟨hS, ?_⟩
   replace HM := ((HM.fr1 3 rfl).fr1 3 rfl).fr1 2 rfl
   replace HM := HM.fr1 3 rfl
   exact drw_sub (K19 v16 v18 _ HM) (Sub.of rfl)
  refine dt 1 #[false, true, false, false, false, false, false, false, false, false] rfl rfl rfl rfl (by kernel_rfl) (ex_fieldAddr (off' := 0) rfl rfl U46 rfl tsz43 rfl) hS ?_
  refine drw_take (i := 2) (l' := #[false, true, true, false, false, false, false, false, false, false]) rfl (guard_none rfl) rfl rfl (by kernel_rfl) (fun w_ hS_ => (ex_load1 rfl rfl U43 rfl ((hS_.box_at 0 rfl) 0 _ rfl))) hS ?_
  refine dt 5 #[false, true, true, false, false, true, false, false, false, false] rfl rfl rfl rfl (by kernel_rfl) (ex_fieldAddr (off' := 1) rfl rfl U46 rfl tsz44 rfl) hS ?_
  refine drw_take (i := 6) (l' := #[false, true, true, false, false, true, true, false, false, false]) rfl (guard_none rfl) rfl rfl (by kernel_rfl) (fun w_ hS_ => (ex_load1 rfl rfl U44 rfl ((hS_.box_at 0 rfl) 1 _ rfl))) hS ?_
  refine drw_any [0, 4] (by kernel_rfl) rfl (.cons ?_ (.cons ?_ .nil))
  ·refine br_does (l' := #[true, true, true, false, false, true, true, false, false, false]) rfl (guard_none rfl) rfl rfl (by kernel_rfl) (does_lit (e := 9) (cs := []) (xs := ([] : List ByteArray)) kStr rfl rfl (fun _ => by kernel_rfl) rfl rfl (fun _ _ h => by have h' : _ = [] := h; subst h'; exact .nil) HM.emp) ?_
   rintro v23 w27 HM
   have hS := HM.sufN 2 rfl
   refine ⟨hS, (drw_any [3, 4] (by kernel_rfl) rfl (.cons ?_ (.cons ?_ .nil)))⟩
   ·refine br_does (l' := #[true, true, true, true, false, true, true, false, false, false]) rfl (guard_none rfl) rfl rfl (by kernel_rfl) (does_appendR kStr flat_plain rfl rfl rfl U43 tsz9 rfl tby9 tz9 rfl rfl (leB_le e14) (HM.rd hp0_0) HM) ?_
    rintro v16 w28 HM
    have hS := HM.sufN 2 rfl
    refine ⟨hS, (drw_any [4] (by kernel_rfl) rfl (.cons ?_ .nil))⟩
    refine br_does (l' := #[true, true, true, true, true, true, true, false, false, false]) rfl (guard_none rfl) rfl rfl (by kernel_rfl) (does_lit (e := 119) (cs := []) (xs := ([] : List Sign)) kSign rfl rfl (fun _ => by kernel_rfl) rfl rfl (fun _ _ h => by have h' : _ = [] := h; subst h'; exact .nil) HM.emp) ?_
    rintro v18 w29 HM
    have hS := HM.sufN 3 rfl
    exact ⟨hS, (drw_sub (K19 v16 v18 _ HM) (Sub.of rfl))⟩
   ·refine br_does (l' := #[true, true, true, false, true, true, true, false, false, false]) rfl (guard_none rfl) rfl rfl (by kernel_rfl) (does_lit (e := 119) (cs := []) (xs := ([] : List Sign)) kSign rfl rfl (fun _ => by kernel_rfl) rfl rfl (fun _ _ h => by have h' : _ = [] := h; subst h'; exact .nil) HM.emp) ?_
    rintro v18 w30 HM
    have hS := HM.sufN 3 rfl
    exact ⟨hS, (drw_sub (K24 v23 v18 _ HM) (Sub.of rfl))⟩
  ·refine br_does (l' := #[false, true, true, false, true, true, true, false, false, false]) rfl (guard_none rfl) rfl rfl (by kernel_rfl) (does_lit (e := 119) (cs := []) (xs := ([] : List Sign)) kSign rfl rfl (fun _ => by kernel_rfl) rfl rfl (fun _ _ h => by have h' : _ = [] := h; subst h'; exact .nil) HM.emp) ?_
   rintro v18 w31 HM
   have hS := HM.sufN 2 rfl
   refine ⟨hS, (drw_any [0] (by kernel_rfl) rfl (.cons ?_ .nil))⟩
   refine br_does (l' := #[true, true, true, false, true, true, true, false, false, false]) rfl (guard_none rfl) rfl rfl (by kernel_rfl) (does_lit (e := 9) (cs := []) (xs := ([] : List ByteArray)) kStr rfl rfl (fun _ => by kernel_rfl) rfl rfl (fun _ _ h => by have h' : _ = [] := h; subst h'; exact .nil) HM.emp) ?_
   rintro v23 w32 HM
   have hS := HM.sufN 3 rfl
   refine ⟨hS, ?_⟩
   replace HM := ((HM.fr1 3 rfl).fr1 3 rfl).fr1 2 rfl
   replace HM := HM.fr1 3 rfl
   exact drw_sub (K24 v23 v18 _ HM) (Sub.of rfl)
 ·rintro _ w33 ⟨v16, v17, rfl, HM⟩
  refine at_then (run_ret ?_)
  have hcb0 := HM.box_at 0 rfl
  replace HM := HM.frd 0 rfl
  cases H
  exact at_retN rfl rfl U46 rfl tsz46 rfl hcb0 ⟨_, rfl, _, _, rfl, HM⟩

def spec_NoteText.f (k : Nat) (x0 : Ledger) (x1 : ByteArray) : Option LedgerResult := ((spec_l1Fault.f k x0).bind fun t10 => (bif (t10 != 0) then some (⟨t10, 0, (⟨([] : List ByteArray), ([] : List Sign)⟩ : Ledger)⟩ : LedgerResult) else (bif ((decide ((x1.size : Int) < 1)) || (decide (300 < (x1.size : Int)))) then some (⟨2, 0, (⟨([] : List ByteArray), ([] : List Sign)⟩ : Ledger)⟩ : LedgerResult) else ((spec_l1Copy.f k x0).bind fun t11 => ((spec_l1At.f k x0.fTexts x1).bind fun t12 => (bif (decide (0 < t12)) then some (⟨0, t12, t11⟩ : LedgerResult) else (bif (decide (60 ≤ (x0.fTexts.length : Int))) then some (⟨2, 0, (⟨([] : List ByteArray), ([] : List Sign)⟩ : Ledger)⟩ : LedgerResult) else (chk (leB ((t11.fTexts.length + ([x1] : List ByteArray).length) * 16) 140737488355328) (some (⟨0, ((t11.fTexts ++ ([x1] : List ByteArray)).length : Int), (⟨t11.fTexts ++ ([x1] : List ByteArray), t11.fSigns⟩ : Ledger)⟩ : LedgerResult))))))))))
theorem spec_NoteText.calls {k : Nat} {x0 : Ledger} {x1 : ByteArray} {p0_0 : Value} {p0_1 : Value} {w : World} (hp0_0 : RdS kStr w p0_0 x0.fTexts) (hp0_1 : RdS kSign w p0_1 x0.fSigns) {r : LedgerResult} (H : spec_NoteText.f k x0 x1 = some r) :
  Calls Tryz.prog 72 ([.agg #[p0_0, p0_1], .string x1] : List Value).toArray w (fun e w_ => ∃ v, e = .returned v ∧ ∃ u0 : Value, ∃ u1 : Value, v = (.agg #[nI r.fCode, nI r.fId, u0, u1]) ∧ Mem w [] w_ [own kStr 9 u0 r.fLedger.fTexts, own kSign 119 u1 r.fLedger.fSigns]) := by
 have HM := Mem.start w
 refine calls_run (N := 49) Tryz.func72 rfl rfl rfl rfl ?_
 unfold spec_NoteText.f at H
 refine run_seq (run_region rfl (oz rfl (does_box (cs := [p0_0, p0_1]) rfl rfl rfl HM) ?_))
 rintro _ w13 ⟨b14, rfl, HM⟩
 refine oz rfl (does_alloc (cs := [nI 0, nI 0, .slice none 0 0, .slice none 0 0]) rfl tz110 rfl HM) ?_
 rintro _ w15 ⟨b16, rfl, HM⟩
 refine ops_nil (at_then (run_seq (run_seq ?_)))
 obtain ⟨t10, h17, H⟩ := bind_some H
 refine run_region rfl (oz rfl (does_callk rfl callok107 rfl (spec_l1Fault.calls (x0 := x0) (HM.box_at 1 rfl) (HM.rd hp0_0) (HM.rd hp0_1) h17)) ?_)
 rintro _ w18 ⟨rfl, hn⟩
 replace HM := HM.callN hn rfl
 refine oM rfl (ops_nil (at_then (run_seq (run_region rfl (oM rfl (oy rfl (ex_neq rfl rfl rfl) (ops_nil (at_then (run_cond (b := (t10 != 0)) rfl (fun hb19 => ?_) (fun hb19 => ?_))))))))))
 ·replace H := cond_t hb19 H
  refine run_seq (run_region rfl (oM rfl (oy rfl (ex_build (cells := #[(nI t10), (nI 0), (.slice none 0 0), (.slice none 0 0)]) rfl rfl (by kernel_rfl)) ?_)))
  refine odS rfl rfl rfl (does_store (vs := [nI t10, nI 0, .slice none 0 0, .slice none 0 0]) (cs' := [nI t10, nI 0, .slice none 0 0, .slice none 0 0]) rfl rfl rfl rfl tsz110 (Ones.int (Ones.int (Ones.sl (Ones.sl Ones.nil)))) rfl rfl HM) ?_
  rintro w20 HM
  refine ops_nil (at_then (run_ret (at_then_ret ?_)))
  replace HM := HM.empty kStr 9 none
  replace HM := ((HM.empty kSign 119 none).frd 3 rfl).fr1 1 rfl
  replace HM := HM.fr1 2 rfl
  have hcb0 := HM.box_at 0 rfl
  replace HM := HM.frd 0 rfl
  cases H
  exact at_retN rfl rfl U110 rfl tsz110 rfl hcb0 ⟨_, rfl, _, _, rfl, HM⟩
 ·replace H := cond_f hb19 H
  refine run_skip (at_then (run_seq (run_seq ?_)))
  refine run_meet (fun ρ_ w_ => ρ_ = [(1, .string x1), (2, pA b14 0), (4, pA b16 0), (20, .bool ((decide ((x1.size : Int) < 1)) || (decide (300 < (x1.size : Int)))))] ∧ Mem w [] w_ [box b14 46 [p0_0, p0_1], box b16 110 [nI 0, nI 0, .slice none 0 0, .slice none 0 0]]) ?_ ?_
  ·refine run_region rfl (oM rfl (oy rfl (ex_strlen rfl rfl U9) (oy rfl (ex_lss rfl rfl rfl) (oM rfl ?_))))
   refine bool_cases (decide ((x1.size : Int) < 1)) (fun hg21 => ?_) (fun hg21 => ?_)
   ·refine gf rfl hg21 (gf rfl hg21 (gf rfl hg21 ?_))
    have hg22 : ((decide ((x1.size : Int) < 1)) || (decide (300 < (x1.size : Int)))) = true := by simp only [hg21, Bool.and_true, Bool.true_and, Bool.and_false, Bool.false_and, Bool.or_true, Bool.true_or, Bool.or_false, Bool.false_or, Bool.not_true, Bool.not_false, Bool.not_not]
    refine ops_ex (v := .bool ((decide ((x1.size : Int) < 1)) || (decide (300 < (x1.size : Int))))) rfl (guard_none rfl) rfl rfl (ex_por_t rfl rfl hg21) (ops_nil ?_)
    replace HM := HM.fr1 1 rfl
    exact at_meet _ ⟨rfl, HM⟩ (Sub.of rfl)
   ·refine gn rfl hg21 (ex_move rfl rfl) (gn rfl hg21 (ex_strlen rfl rfl U9) (gn rfl hg21 (ex_gtr rfl rfl rfl) (ops_ex (v := .bool ((decide ((x1.size : Int) < 1)) || (decide (300 < (x1.size : Int))))) rfl (guard_none rfl) rfl rfl (ex_por_f rfl rfl hg21 rfl) (ops_nil ?_))))
    replace HM := HM.fr1 1 rfl
    exact at_meet _ ⟨rfl, HM⟩ (Sub.of rfl)
  ·rintro _ w23 ⟨rfl, HM⟩
   refine at_then (run_cond (b := ((decide ((x1.size : Int) < 1)) || (decide (300 < (x1.size : Int))))) rfl (fun hb24 => ?_) (fun hb24 => ?_))
   ·replace H := cond_t hb24 H
    refine run_seq (run_region rfl (oy rfl (ex_build (cells := #[(nI 2), (nI 0), (.slice none 0 0), (.slice none 0 0)]) rfl rfl (by kernel_rfl)) ?_))
    replace HM := HM.fr1 1 rfl
    refine odS rfl rfl rfl (does_store (vs := [nI 2, nI 0, .slice none 0 0, .slice none 0 0]) (cs' := [nI 2, nI 0, .slice none 0 0, .slice none 0 0]) rfl rfl rfl rfl tsz110 (Ones.int (Ones.int (Ones.sl (Ones.sl Ones.nil)))) rfl rfl HM) ?_
    rintro w25 HM
    refine ops_nil (at_then (run_ret (at_then_ret ?_)))
    replace HM := HM.empty kStr 9 none
    replace HM := ((HM.empty kSign 119 none).frd 3 rfl).fr1 1 rfl
    replace HM := HM.fr1 2 rfl
    have hcb0 := HM.box_at 0 rfl
    replace HM := HM.frd 0 rfl
    cases H
    exact at_retN rfl rfl U110 rfl tsz110 rfl hcb0 ⟨_, rfl, _, _, rfl, HM⟩
   ·replace H := cond_f hb24 H
    refine run_skip (at_then (run_seq ?_))
    obtain ⟨t11, h26, H⟩ := bind_some H
    refine run_region rfl (oy rfl (ldN rfl rfl U46 rfl tsz46 ((HM.box_at 0 rfl).subL 0 2 rfl) rfl) (oz rfl (does_callk rfl callok108 rfl (spec_l1Copy.calls (x0 := x0) (HM.rd hp0_0) (HM.rd hp0_1) h26)) ?_))
    rintro _ w27 ⟨u28, u29, rfl, hn⟩
    replace HM := HM.callN hn rfl
    refine oz rfl (does_alloc (cs := [.slice none 0 0, .slice none 0 0]) rfl tz46 rfl HM) ?_
    rintro _ w30 ⟨b31, rfl, HM⟩
    refine odS rfl rfl rfl (does_store (vs := [u28, u29]) (cs' := [u28, u29]) rfl rfl rfl rfl tsz46 (Ones.rd (HM.own_rd 1 rfl) (Ones.rd (HM.own_rd 2 rfl) Ones.nil)) rfl rfl HM) ?_
    rintro w32 HM
    refine ops_nil (at_then (run_seq (run_seq ?_)))
    obtain ⟨t12, h33, H⟩ := bind_some H
    refine run_region rfl (oy rfl (ex_fieldAddr (off' := 0) rfl rfl U46 rfl tsz43 rfl) (oy rfl (ex_load1 rfl rfl U43 rfl ((HM.box_at 3 rfl) 0 _ rfl)) (oM rfl (oz rfl (does_callk rfl callok109 rfl (spec_l1At.calls (x0 := x0.fTexts) (x1 := x1) (HM.rd hp0_0) h33)) ?_))))
    rintro _ w34 ⟨rfl, hn⟩
    replace HM := HM.callN hn rfl
    refine oM rfl (ops_nil (at_then (run_seq (run_region rfl (oM rfl (oy rfl (ex_gtr rfl rfl rfl) (ops_nil (at_then (run_cond (b := (decide (0 < t12))) rfl (fun hb35 => ?_) (fun hb35 => ?_))))))))))
    ·replace H := cond_t hb35 H
     refine run_seq (run_region rfl (oM rfl (oy rfl (ldN rfl rfl U46 rfl tsz46 ((HM.box_at 0 rfl).subL 0 2 rfl) rfl) (oy rfl (ex_build2 (fun u28 u29 => [(1, nI t12), (2, .agg #[u28, u29])]) (fun u28 u29 => #[nI 0, nI t12, u28, u29]) rfl rfl (fun _ _ _ _ _ _ => by kernel_rfl) (HM.own_rd 1 rfl).isSl (HM.own_rd 2 rfl).isSl) ?_))))
     replace HM := HM.fr1 4 rfl
     refine odS rfl rfl rfl (does_store (vs := [nI 0, nI t12, u28, u29]) (cs' := [nI 0, nI t12, u28, u29]) rfl rfl rfl rfl tsz110 (Ones.int (Ones.int (Ones.rd (HM.own_rd 2 rfl) (Ones.rd (HM.own_rd 3 rfl) Ones.nil)))) rfl rfl HM) ?_
     rintro w36 HM
     refine ops_nil (at_then (run_ret (at_then_ret ?_)))
     replace HM := (HM.frd 1 rfl).frd 3 rfl
     have hcb0 := HM.box_at 0 rfl
     replace HM := HM.frd 0 rfl
     cases H
     exact at_retN rfl rfl U110 rfl tsz110 rfl hcb0 ⟨_, rfl, _, _, rfl, HM⟩
    ·replace H := cond_f hb35 H
     refine run_skip (at_then (run_seq (run_seq (run_region rfl (oy rfl (ex_fieldAddr (off' := 0) rfl rfl U46 rfl tsz43 rfl) (oy rfl (ex_load1 rfl rfl U43 rfl ((HM.box_at 3 rfl) 0 _ rfl)) (oy rfl (ex_len (d := kStr) (xs := x0.fTexts) rfl rfl U43 hp0_0) (oy rfl (ex_geq rfl rfl rfl) (ops_nil (at_then ?_))))))))))
     refine run_cond (b := (decide (60 ≤ (x0.fTexts.length : Int)))) rfl (fun hb37 => ?_) (fun hb37 => ?_)
     ·replace H := cond_t hb37 H
      refine run_seq (run_region rfl (oy rfl (ex_build (cells := #[(nI 2), (nI 0), (.slice none 0 0), (.slice none 0 0)]) rfl rfl (by kernel_rfl)) ?_))
      replace HM := HM.fr1 4 rfl
      refine odS rfl rfl rfl (does_store (vs := [nI 2, nI 0, .slice none 0 0, .slice none 0 0]) (cs' := [nI 2, nI 0, .slice none 0 0, .slice none 0 0]) rfl rfl rfl rfl tsz110 (Ones.int (Ones.int (Ones.sl (Ones.sl Ones.nil)))) rfl rfl HM) ?_
      rintro w38 HM
      refine ops_nil (at_then (run_ret (at_then_ret ?_)))
      replace HM := HM.empty kStr 9 none
      replace HM := ((HM.empty kSign 119 none).frd 3 rfl).frd 3 rfl
      replace HM := ((HM.frd 3 rfl).frd 3 rfl).fr1 1 rfl
      replace HM := HM.fr1 2 rfl
      have hcb0 := HM.box_at 0 rfl
      replace HM := HM.frd 0 rfl
      cases H
      exact at_retN rfl rfl U110 rfl tsz110 rfl hcb0 ⟨_, rfl, _, _, rfl, HM⟩
     ·replace H := cond_f hb37 H
      refine run_skip (at_then (run_seq ?_))
      obtain ⟨e39, H⟩ := chk_some H
      refine run_region rfl (oy rfl (ex_fieldAddr (off' := 0) rfl rfl U46 rfl tsz43 rfl) (oy rfl (ex_load1 rfl rfl U43 rfl ((HM.box_at 0 rfl) 0 _ rfl)) (oM rfl (oz rfl (does_lit (e := 9) (cs := [.string x1]) (xs := ([x1] : List ByteArray)) kStr rfl rfl (fun _ => by kernel_rfl) rfl rfl (fun _ _ h => by have h' : _ = [] := h; subst h'; exact (Elems.cons (d := kStr) (x := x1) (f := []) ⟨rfl, rfl⟩ .nil)) HM.emp) ?_))))
      rintro v40 w41 HM
      replace HM := HM.fr1 2 rfl
      refine oz rfl (does_appendR kStr flat_plain rfl rfl rfl U43 tsz9 rfl tby9 tz9 rfl rfl (leB_le e39) (HM.own_rd 1 rfl) HM) ?_
      rintro v42 w43 HM
      refine oy rfl (ex_fieldAddr (off' := 0) rfl rfl U46 rfl tsz43 rfl) ?_
      replace HM := HM.fr1 2 rfl
      refine odS rfl rfl rfl (does_store (vs := [v42]) (cs' := [v42, u29]) rfl rfl rfl (rd_cells (HM.own_rd 1 rfl)) tsz43 (Ones.rd (HM.own_rd 1 rfl) Ones.nil) rfl rfl HM) ?_
      rintro w44 HM
      refine ops_nil (at_then (run_seq (run_region rfl (oy rfl (ex_fieldAddr (off' := 0) rfl rfl U46 rfl tsz43 rfl) (oy rfl (ex_load1 rfl rfl U43 rfl ((HM.box_at 0 rfl) 0 _ rfl)) (oy rfl (ex_len (d := kStr) (xs := t11.fTexts ++ ([x1] : List ByteArray)) rfl rfl U43 (HM.own_rd 1 rfl)) (oy rfl (ldN rfl rfl U46 rfl tsz46 ((HM.box_at 0 rfl).subL 0 2 rfl) rfl) (oy rfl (ex_build2 (fun v42 u29 => [(1, nI ((t11.fTexts ++ ([x1] : List ByteArray)).length : Int)), (2, .agg #[v42, u29])]) (fun v42 u29 => #[nI 0, nI ((t11.fTexts ++ ([x1] : List ByteArray)).length : Int), v42, u29]) rfl rfl (fun _ _ _ _ _ _ => by kernel_rfl) (HM.own_rd 1 rfl).isSl (HM.own_rd 3 rfl).isSl) ?_))))))))
      replace HM := HM.fr1 5 rfl
      refine odS rfl rfl rfl (does_store (vs := [nI 0, nI ((t11.fTexts ++ ([x1] : List ByteArray)).length : Int), v42, u29]) (cs' := [nI 0, nI ((t11.fTexts ++ ([x1] : List ByteArray)).length : Int), v42, u29]) rfl rfl rfl rfl tsz110 (Ones.int (Ones.int (Ones.rd (HM.own_rd 2 rfl) (Ones.rd (HM.own_rd 4 rfl) Ones.nil)))) rfl rfl HM) ?_
      rintro w45 HM
      refine ops_nil (at_then (run_ret ?_))
      replace HM := ((HM.frd 1 rfl).frd 2 rfl).frd 3 rfl
      have hcb0 := HM.box_at 0 rfl
      replace HM := HM.frd 0 rfl
      cases H
      exact at_retN rfl rfl U110 rfl tsz110 rfl hcb0 ⟨_, rfl, _, _, rfl, HM⟩

def spec_l3Outs.l0 (x0 : Tx) : Nat → Int → Option (Int ⊕ Unit)
 | 0, _ => none
 | k + 1, a10 => (bif (decide (a10 < (x0.fOuts.length : Int))) then (chk (idxOk a10 x0.fOuts.length) ((spec_l1In.f k ((gt x0.fOuts a10).fValue) 1 1000000).bind fun t11 => (bif !t11 then some (.inl 3) else (chk (idxOk a10 x0.fOuts.length) ((spec_l2Fault.f k ((gt x0.fOuts a10).fRule)).bind fun t12 => (bif (t12 != 0) then some (.inl t12) else spec_l3Outs.l0 x0 k (wrap64 (a10 + 1)))))))) else some (.inr ()))
def spec_l3Outs.f (k : Nat) (x0 : Tx) : Option Int := ((spec_l3Outs.l0 x0 k 0).bind fun o13 => thn o13 (fun r => some r) (fun _ => (chk (!(x0.fKind == 1) || (idxOk (0 : Int) x0.fOuts.length)) (bif ((x0.fKind == 1) && (decide (((gt x0.fOuts (0 : Int)).fValue) < 100))) then some 8 else some 0))))
theorem spec_l3Outs.calls {k : Nat} {x0 : Tx} {b0 f0 : Nat} {p0_0 : Value} {p0_1 : Value} {w : World} (hc0 : CellsAt w b0 f0 [nI x0.fKind, nI x0.fMember, p0_0, p0_1]) (hp0_0 : RdS kRef w p0_0 x0.fIns) (hp0_1 : RdS kOut w p0_1 x0.fOuts) {r : Int} (H : spec_l3Outs.f k x0 = some r) :
  Calls Tryz.prog 88 ([pA b0 f0] : List Value).toArray w (fun e w_ => ∃ v, e = .returned v ∧ v = (nI r) ∧ Mem w [] w_ []) := by
 have HM := Mem.start w
 refine calls_run (N := 50) Tryz.func88 rfl rfl rfl rfl ?_
 unfold spec_l3Outs.f at H
 refine run_seq (run_region rfl (oM rfl (ops_nil (at_then ?_))))
 obtain ⟨o13, ho14, H⟩ := bind_some H
 refine run_mid (fun ρ_ w_ => Sum.inr () = o13 ∧ ρ_ = [(0, pA b0 f0)] ∧ Mem w [] w_ []) ?_ ?_
 ·refine run_seq (run_region rfl (oM rfl (ops_nil (at_then (run_block ?_)))))
  refine run_loop (fun k_ ρ_ w_ => ∃ a10 : Int, spec_l3Outs.l0 x0 k_ a10 = some o13 ∧ ρ_ = [(0, pA b0 f0), (3, nI a10)] ∧ Mem w [] w_ []) k ⟨_, ho14, rfl, HM⟩ (Sub.of rfl) ?_
  clear HM ho14
  rintro k15 _ w16 ⟨a10, ho14, rfl, HM⟩
  obtain _ | k15 := k15
  ·exact nomatch ((spec_l3Outs.l0.eq_1 x0 a10).symm.trans ho14)
  replace ho14 := (spec_l3Outs.l0.eq_2 ..).symm.trans ho14
  refine run_seq (run_seq (run_region rfl (oM rfl (oM rfl (oy rfl (ex_nilCheck rfl rfl) (oy rfl (ex_fieldAddr (off' := f0 + 3) rfl rfl U28 rfl tsz26 rfl) (oy rfl (ex_load1 rfl rfl U26 rfl ((HM.at_ hc0) 3 _ rfl)) (oy rfl (ex_len (d := kOut) (xs := x0.fOuts) rfl rfl U26 hp0_1) (oy rfl (ex_lss rfl rfl rfl) ?_)))))))))
  refine ops_nil (at_then (run_cond (b := (decide (a10 < (x0.fOuts.length : Int)))) rfl (fun hb17 => ?_) (fun hb17 => ?_)))
  ·replace ho14 := cond_t hb17 ho14
   refine run_skip (at_then (run_seq (run_block (run_seq (run_seq ?_)))))
   obtain ⟨e18, ho14⟩ := chk_some ho14
   obtain ⟨t11, h19, ho14⟩ := bind_some ho14
   refine run_region rfl (oM rfl (oy rfl (ex_nilCheck rfl rfl) (oy rfl (ex_fieldAddr (off' := f0 + 3) rfl rfl U28 rfl tsz26 rfl) (oy rfl (ex_load1 rfl rfl U26 rfl ((HM.at_ hc0) 3 _ rfl)) (oM rfl ?_)))))
   obtain ⟨kv20, hc21, hk22⟩ := rd_with1 hp0_1 e18
   refine oy rfl (ex_indexAddr (d := kOut) rfl rfl rfl U26 tsz68 hp0_1 (idx_lo e18) (idx_hi e18)) (oy rfl (ex_fieldAddr (off' := so p0_1 + (a10).toNat * 4) rfl rfl U68 rfl tsz2 rfl) (oy rfl (ex_load1 rfl rfl U2 rfl ((HM.at_ hc21) 0 _ rfl)) (oz rfl (does_callk rfl callok50 rfl (spec_l1In.calls (x0 := (gt x0.fOuts a10).fValue) (x1 := 1) (x2 := 1000000) h19)) ?_)))
   rintro _ w23 ⟨rfl, hn⟩
   replace HM := HM.callN hn rfl
   refine oy rfl (ex_not rfl rfl) (ops_nil (at_then (run_cond (b := !t11) rfl (fun hb24 => ?_) (fun hb24 => ?_))))
   ·replace ho14 := cond_t hb24 ho14
    refine run_seq (run_region rfl (oM rfl (ops_nil (at_then (run_ret (at_then_ret (at_block_ret (at_then_ret (at_then_ret (at_block_ret ?_))))))))))
    refine at_then_ret ?_
    cases ho14
    have hT := thn_inl H
    cases hT
    exact at_ret1 rfl rfl ⟨_, rfl, rfl, HM⟩
   ·replace ho14 := cond_f hb24 ho14
    refine run_skip (at_then (run_seq ?_))
    obtain ⟨e25, ho14⟩ := chk_some ho14
    obtain ⟨t12, h26, ho14⟩ := bind_some ho14
    refine run_region rfl (oM rfl (oy rfl (ex_nilCheck rfl rfl) (oy rfl (ex_fieldAddr (off' := f0 + 3) rfl rfl U28 rfl tsz26 rfl) (oy rfl (ex_load1 rfl rfl U26 rfl ((HM.at_ hc0) 3 _ rfl)) (oM rfl ?_)))))
    obtain ⟨kv27, hc28, hk29⟩ := rd_with1 hp0_1 e25
    refine oy rfl (ex_indexAddr (d := kOut) rfl rfl rfl U26 tsz68 hp0_1 (idx_lo e25) (idx_hi e25)) (oy rfl (ex_fieldAddr (off' := so p0_1 + (a10).toNat * 4 + 1) rfl rfl U68 rfl tsz66 rfl) (oz rfl (does_callk rfl callok90 rfl (spec_l2Fault.calls (x0 := (gt x0.fOuts a10).fRule) (CellsAt.sub (HM.at_ hc28) 1 3 rfl) (HM.rd hk29) h26)) ?_))
    rintro _ w30 ⟨rfl, hn⟩
    replace HM := HM.callN hn rfl
    refine oM rfl (ops_nil (at_then (run_seq (run_region rfl (oM rfl (oy rfl (ex_neq rfl rfl rfl) (ops_nil (at_then (run_cond (b := (t12 != 0)) rfl (fun hb31 => ?_) (fun hb31 => ?_))))))))))
    ·replace ho14 := cond_t hb31 ho14
     refine run_seq (run_region rfl (oM rfl (oM rfl (ops_nil (at_then (run_ret (at_block_ret (at_then_ret (at_then_ret (at_block_ret ?_))))))))))
     refine at_then_ret ?_
     cases ho14
     have hT := thn_inl H
     cases hT
     exact at_ret1 rfl rfl ⟨_, rfl, rfl, HM⟩
    ·replace ho14 := cond_f hb31 ho14
     exact run_skip (at_block (at_then (run_region rfl (oM rfl (oy rfl (ex_add rfl rfl rfl) (oM rfl (ops_nil (at_again k15 (Nat.lt_succ_self _) ⟨_, ho14, rfl, HM⟩ (Sub.of rfl)))))))))
  ·replace ho14 := cond_f hb17 ho14
   exact run_exit (at_then_exit (at_then_exit (at_block_exit (at_mid ⟨(sj ho14), rfl, HM⟩ (Sub.of rfl)))))
 ·rintro _ w32 ⟨rfl, rfl, HM⟩
  replace H := (thn_inr H)
  refine run_seq (run_seq ?_)
  obtain ⟨e33, H⟩ := chk_some H
  refine run_meet (fun ρ_ w_ => ρ_ = [(49, .bool ((x0.fKind == 1) && (decide (((gt x0.fOuts (0 : Int)).fValue) < 100))))] ∧ Mem w [] w_ []) ?_ ?_
  ·refine run_region rfl (oM rfl (oy rfl (ex_nilCheck rfl rfl) (oy rfl (ex_fieldAddr (off' := f0) rfl rfl U28 rfl tsz2 rfl) (oy rfl (ex_load1 rfl rfl U2 rfl ((HM.at_ hc0) 0 _ rfl)) (oy rfl (ex_eql rfl rfl rfl) (oM rfl ?_))))))
   refine bool_cases (x0.fKind == 1) (fun hg34 => ?_) (fun hg34 => ?_)
   ·refine gn rfl hg34 (ex_move rfl rfl) (gn rfl hg34 (ex_nilCheck rfl rfl) (gn rfl hg34 (ex_fieldAddr (off' := f0 + 3) rfl rfl U28 rfl tsz26 rfl) (gn rfl hg34 (ex_load1 rfl rfl U26 rfl ((HM.at_ hc0) 3 _ rfl)) ?_)))
    obtain ⟨kv35, hc36, hk37⟩ := rd_with1 hp0_1 (or_t e33 hg34)
    exact gn rfl hg34 (ex_indexAddr (d := kOut) rfl rfl rfl U26 tsz68 hp0_1 (idx_lo (or_t e33 hg34)) (idx_hi (or_t e33 hg34))) (gn rfl hg34 (ex_fieldAddr (off' := so p0_1 + ((0 : Int)).toNat * 4) rfl rfl U68 rfl tsz2 rfl) (gn rfl hg34 (ex_load1 rfl rfl U2 rfl ((HM.at_ hc36) 0 _ rfl)) (gn rfl hg34 (ex_lss rfl rfl rfl) (ops_ex (v := .bool ((x0.fKind == 1) && (decide (((gt x0.fOuts (0 : Int)).fValue) < 100)))) rfl (guard_none rfl) rfl rfl (ex_pand_t rfl rfl hg34 rfl) (ops_nil (at_meet _ ⟨rfl, HM⟩ (Sub.of rfl)))))))
   ·refine gf rfl hg34 (gf rfl hg34 (gf rfl hg34 (gf rfl hg34 (gf rfl hg34 (gf rfl hg34 (gf rfl hg34 (gf rfl hg34 ?_)))))))
    have hg38 : ((x0.fKind == 1) && (decide (((gt x0.fOuts (0 : Int)).fValue) < 100))) = false := by simp only [hg34, Bool.and_true, Bool.true_and, Bool.and_false, Bool.false_and, Bool.or_true, Bool.true_or, Bool.or_false, Bool.false_or, Bool.not_true, Bool.not_false, Bool.not_not]
    exact ops_ex (v := .bool ((x0.fKind == 1) && (decide (((gt x0.fOuts (0 : Int)).fValue) < 100)))) rfl (guard_none rfl) rfl rfl (ex_pand_f rfl rfl hg34) (ops_nil (at_meet _ ⟨rfl, HM⟩ (Sub.of rfl)))
  ·rintro _ w39 ⟨rfl, HM⟩
   refine at_then (run_cond (b := ((x0.fKind == 1) && (decide (((gt x0.fOuts (0 : Int)).fValue) < 100)))) rfl (fun hb40 => ?_) (fun hb40 => ?_))
   ·replace H := cond_t hb40 H
    refine run_seq (run_region rfl (oM rfl (ops_nil (at_then (run_ret (at_then_ret ?_))))))
    cases H
    exact at_ret1 rfl rfl ⟨_, rfl, rfl, HM⟩
   ·replace H := cond_f hb40 H
    refine run_skip (at_then (run_seq (run_region rfl (oM rfl (ops_nil (at_then (run_ret ?_)))))))
    cases H
    exact at_ret1 rfl rfl ⟨_, rfl, rfl, HM⟩

def spec_l3Fault.l0 (x0 : Tx) : Nat → Int → Option (Int ⊕ Unit)
 | 0, _ => none
 | k + 1, a10 => (bif (decide (a10 < (x0.fIns.length : Int))) then (chk (idxOk a10 x0.fIns.length) ((spec_l3Ref.f k (gt x0.fIns a10)).bind fun t11 => (bif !t11 then some (.inl 3) else (chk (cutOk a10 x0.fIns.length) (chk (idxOk a10 x0.fIns.length) ((spec_l3Among.f k (x0.fIns.take (a10).toNat) (gt x0.fIns a10)).bind fun t12 => (bif t12 then some (.inl 7) else spec_l3Fault.l0 x0 k (wrap64 (a10 + 1))))))))) else some (.inr ()))
def spec_l3Fault.f (k : Nat) (x0 : Tx) : Option Int := ((spec_l1In.f k x0.fKind 0 2).bind fun t13 => (bif ((!t13) || ((x0.fKind == 0) != (x0.fMember == 0))) then some 1 else ((bif (x0.fKind != 0) then spec_l1Key.f k x0.fMember else some default).bind fun t14 => (bif ((x0.fKind != 0) && (!t14)) then some 3 else ((spec_l1In.f k (x0.fIns.length : Int) 1 4).bind fun t15 => ((bif (!(!t15)) then spec_l1In.f k (x0.fOuts.length : Int) 1 4 else some default).bind fun t16 => (bif ((!t15) || (!t16)) then some 2 else ((spec_l3Fault.l0 x0 k 0).bind fun o17 => thn o17 (fun r => some r) (fun _ => ((spec_l3Outs.f k x0).bind fun t18 => some t18))))))))))
theorem spec_l3Fault.calls {k : Nat} {x0 : Tx} {b0 f0 : Nat} {p0_0 : Value} {p0_1 : Value} {w : World} (hc0 : CellsAt w b0 f0 [nI x0.fKind, nI x0.fMember, p0_0, p0_1]) (hp0_0 : RdS kRef w p0_0 x0.fIns) (hp0_1 : RdS kOut w p0_1 x0.fOuts) {r : Int} (H : spec_l3Fault.f k x0 = some r) :
  Calls Tryz.prog 46 ([pA b0 f0] : List Value).toArray w (fun e w_ => ∃ v, e = .returned v ∧ v = (nI r) ∧ Mem w [] w_ []) := by
 have HM := Mem.start w
 refine calls_run (N := 86) Tryz.func46 rfl rfl rfl rfl ?_
 unfold spec_l3Fault.f at H
 refine run_seq (run_region rfl (oM rfl (ops_nil (at_then (run_seq (run_seq ?_))))))
 obtain ⟨t13, h19, H⟩ := bind_some H
 refine run_meet (fun ρ_ w_ => ρ_ = [(0, pA b0 f0), (22, .bool ((!t13) || ((x0.fKind == 0) != (x0.fMember == 0))))] ∧ Mem w [] w_ []) ?_ ?_
 ·refine run_drawf (fun w_ => Mem w [] w_ []) [(0, true), (1, true), (2, true), (3, true), (4, false), (5, true), (6, true), (7, true), (8, true), (9, true), (10, true), (11, true), (12, true), (13, true), (14, true), (15, true), (16, true), (17, true), (18, true)] mixed rfl rfl (by kernel_rfl) ?_
  replace HM := HM.grow (fr_drew _)
  have hS := HM.sufN 0 rfl
  refine dp rfl rfl rfl rfl (ex_move rfl rfl) hS (dp rfl rfl rfl rfl (ex_nilCheck rfl rfl) hS (dp rfl rfl rfl rfl (ex_fieldAddr (off' := f0) rfl rfl U28 rfl tsz2 rfl) hS (drwp_take rfl (guard_none rfl) rfl rfl (fun w_ hS_ => (ex_load1 rfl rfl U2 rfl ((hS_.at_ hc0) 0 _ rfl))) hS (drwp_one rfl (guard_none rfl) rfl rfl (does_callk rfl callok50 rfl (spec_l1In.calls (x0 := x0.fKind) (x1 := 0) (x2 := 2) h19)) ?_))))
  rintro _ w20 ⟨rfl, hn⟩
  replace HM := HM.callN hn rfl
  have hS := HM.sufN 0 rfl
  refine ⟨hS, (dp rfl rfl rfl rfl (ex_not rfl rfl) hS (dp rfl rfl rfl rfl (ex_move rfl rfl) hS ?_))⟩
  refine bool_cases (!t13) (fun hg21 => ?_) (fun hg21 => ?_)
  ·refine drwp_off rfl (guard_off rfl rfl rfl hg21) rfl rfl hS (drwp_off rfl (guard_off rfl rfl rfl hg21) rfl rfl hS (drwp_off rfl (guard_off rfl rfl rfl hg21) rfl rfl hS (drwp_off rfl (guard_off rfl rfl rfl hg21) rfl rfl hS (drwp_off rfl (guard_off rfl rfl rfl hg21) rfl rfl hS (drwp_off rfl (guard_off rfl rfl rfl hg21) rfl rfl hS (drwp_off rfl (guard_off rfl rfl rfl hg21) rfl rfl hS (drwp_off rfl (guard_off rfl rfl rfl hg21) rfl rfl hS (drwp_off rfl (guard_off rfl rfl rfl hg21) rfl rfl hS (drwp_off rfl (guard_off rfl rfl rfl hg21) rfl rfl hS ?_)))))))))
   refine drwp_off rfl (guard_off rfl rfl rfl hg21) rfl rfl hS ?_
   have hg22 : ((!t13) || ((x0.fKind == 0) != (x0.fMember == 0))) = true := by simp only [hg21, Bool.and_true, Bool.true_and, Bool.and_false, Bool.false_and, Bool.or_true, Bool.true_or, Bool.or_false, Bool.false_or, Bool.not_true, Bool.not_false, Bool.not_not]
   exact drwp_take (v := .bool ((!t13) || ((x0.fKind == 0) != (x0.fMember == 0)))) rfl (guard_none rfl) rfl rfl (fun w_ hS_ => (ex_por_t rfl rfl hg21)) hS (drwp_done (at_meet _ ⟨rfl, HM⟩ (Sub.of rfl)))
  ·refine drwp_take rfl (guard_on rfl rfl rfl hg21) rfl rfl (fun w_ hS_ => (ex_move rfl rfl)) hS (drwp_take rfl (guard_on rfl rfl rfl hg21) rfl rfl (fun w_ hS_ => (ex_nilCheck rfl rfl)) hS (drwp_take rfl (guard_on rfl rfl rfl hg21) rfl rfl (fun w_ hS_ => (ex_fieldAddr (off' := f0) rfl rfl U28 rfl tsz2 rfl)) hS (drwp_take rfl (guard_on rfl rfl rfl hg21) rfl rfl (fun w_ hS_ => (ex_load1 rfl rfl U2 rfl ((hS_.at_ hc0) 0 _ rfl))) hS (drwp_take rfl (guard_on rfl rfl rfl hg21) rfl rfl (fun w_ hS_ => (ex_eql rfl rfl rfl)) hS (drwp_take rfl (guard_on rfl rfl rfl hg21) rfl rfl (fun w_ hS_ => (ex_move rfl rfl)) hS (drwp_take rfl (guard_on rfl rfl rfl hg21) rfl rfl (fun w_ hS_ => (ex_nilCheck rfl rfl)) hS (drwp_take rfl (guard_on rfl rfl rfl hg21) rfl rfl (fun w_ hS_ => (ex_fieldAddr (off' := f0 + 1) rfl rfl U28 rfl tsz2 rfl)) hS (drwp_take rfl (guard_on rfl rfl rfl hg21) rfl rfl (fun w_ hS_ => (ex_load1 rfl rfl U2 rfl ((hS_.at_ hc0) 1 _ rfl))) hS (drwp_take rfl (guard_on rfl rfl rfl hg21) rfl rfl (fun w_ hS_ => (ex_eql rfl rfl rfl)) hS ?_)))))))))
   exact drwp_take rfl (guard_on rfl rfl rfl hg21) rfl rfl (fun w_ hS_ => (ex_bneq rfl rfl rfl U4)) hS (drwp_take (v := .bool ((!t13) || ((x0.fKind == 0) != (x0.fMember == 0)))) rfl (guard_none rfl) rfl rfl (fun w_ hS_ => (ex_por_f rfl rfl hg21 rfl)) hS (drwp_done (at_meet _ ⟨rfl, HM⟩ (Sub.of rfl))))
 ·rintro _ w23 ⟨rfl, HM⟩
  refine at_then (run_cond (b := ((!t13) || ((x0.fKind == 0) != (x0.fMember == 0)))) rfl (fun hb24 => ?_) (fun hb24 => ?_))
  ·replace H := cond_t hb24 H
   refine run_seq (run_region rfl (oM rfl (ops_nil (at_then (run_ret (at_then_ret ?_))))))
   cases H
   exact at_ret1 rfl rfl ⟨_, rfl, rfl, HM⟩
  ·replace H := cond_f hb24 H
   refine run_skip (at_then (run_seq (run_seq ?_)))
   obtain ⟨t14, h25, H⟩ := bind_some H
   refine run_meet (fun ρ_ w_ => ρ_ = [(0, pA b0 f0), (35, .bool ((x0.fKind != 0) && (!t14)))] ∧ Mem w [] w_ []) ?_ ?_
   ·refine run_region rfl (oM rfl (oy rfl (ex_nilCheck rfl rfl) (oy rfl (ex_fieldAddr (off' := f0) rfl rfl U28 rfl tsz2 rfl) (oy rfl (ex_load1 rfl rfl U2 rfl ((HM.at_ hc0) 0 _ rfl)) (oy rfl (ex_neq rfl rfl rfl) (oM rfl ?_))))))
    refine bool_cases (x0.fKind != 0) (fun hg26 => ?_) (fun hg26 => ?_)
    ·refine gn rfl hg26 (ex_move rfl rfl) (gn rfl hg26 (ex_nilCheck rfl rfl) (gn rfl hg26 (ex_fieldAddr (off' := f0 + 1) rfl rfl U28 rfl tsz2 rfl) (gn rfl hg26 (ex_load1 rfl rfl U2 rfl ((HM.at_ hc0) 1 _ rfl)) (ops_does rfl (guard_on rfl rfl rfl hg26) rfl rfl (does_callk rfl callok86 rfl (spec_l1Key.calls (x0 := x0.fMember) (cond_t hg26 h25))) ?_))))
     rintro _ w27 ⟨rfl, hn⟩
     replace HM := HM.callN hn rfl
     exact gn rfl hg26 (ex_not rfl rfl) (ops_ex (v := .bool ((x0.fKind != 0) && (!t14))) rfl (guard_none rfl) rfl rfl (ex_pand_t rfl rfl hg26 rfl) (ops_nil (at_meet _ ⟨rfl, HM⟩ (Sub.of rfl))))
    ·refine gf rfl hg26 (gf rfl hg26 (gf rfl hg26 (gf rfl hg26 (gf rfl hg26 (gf rfl hg26 ?_)))))
     have hg28 : ((x0.fKind != 0) && (!t14)) = false := by simp only [hg26, Bool.and_true, Bool.true_and, Bool.and_false, Bool.false_and, Bool.or_true, Bool.true_or, Bool.or_false, Bool.false_or, Bool.not_true, Bool.not_false, Bool.not_not]
     exact ops_ex (v := .bool ((x0.fKind != 0) && (!t14))) rfl (guard_none rfl) rfl rfl (ex_pand_f rfl rfl hg26) (ops_nil (at_meet _ ⟨rfl, HM⟩ (Sub.of rfl)))
   ·rintro _ w29 ⟨rfl, HM⟩
    refine at_then (run_cond (b := ((x0.fKind != 0) && (!t14))) rfl (fun hb30 => ?_) (fun hb30 => ?_))
    ·replace H := cond_t hb30 H
     refine run_seq (run_region rfl (oM rfl (ops_nil (at_then (run_ret (at_then_ret ?_))))))
     cases H
     exact at_ret1 rfl rfl ⟨_, rfl, rfl, HM⟩
    ·replace H := cond_f hb30 H
     refine run_skip (at_then (run_seq (run_seq ?_)))
     obtain ⟨t15, h31, H⟩ := bind_some H
     obtain ⟨t16, h32, H⟩ := bind_some H
     refine run_meet (fun ρ_ w_ => ρ_ = [(0, pA b0 f0), (51, .bool ((!t15) || (!t16)))] ∧ Mem w [] w_ []) ?_ ?_
     ·refine run_region rfl (oM rfl (oy rfl (ex_nilCheck rfl rfl) (oy rfl (ex_fieldAddr (off' := f0 + 2) rfl rfl U28 rfl tsz25 rfl) (oy rfl (ex_load1 rfl rfl U25 rfl ((HM.at_ hc0) 2 _ rfl)) (oy rfl (ex_len (d := kRef) (xs := x0.fIns) rfl rfl U25 hp0_0) (oz rfl (does_callk rfl callok50 rfl (spec_l1In.calls (x0 := (x0.fIns.length : Int)) (x1 := 1) (x2 := 4) h31)) ?_))))))
      rintro _ w33 ⟨rfl, hn⟩
      replace HM := HM.callN hn rfl
      refine oy rfl (ex_not rfl rfl) (oM rfl ?_)
      refine bool_cases (!t15) (fun hg34 => ?_) (fun hg34 => ?_)
      ·refine gf rfl hg34 (gf rfl hg34 (gf rfl hg34 (gf rfl hg34 (gf rfl hg34 (gf rfl hg34 (gf rfl hg34 ?_))))))
       have hg35 : ((!t15) || (!t16)) = true := by simp only [hg34, Bool.and_true, Bool.true_and, Bool.and_false, Bool.false_and, Bool.or_true, Bool.true_or, Bool.or_false, Bool.false_or, Bool.not_true, Bool.not_false, Bool.not_not]
       exact ops_ex (v := .bool ((!t15) || (!t16))) rfl (guard_none rfl) rfl rfl (ex_por_t rfl rfl hg34) (ops_nil (at_meet _ ⟨rfl, HM⟩ (Sub.of rfl)))
      ·refine gn rfl hg34 (ex_move rfl rfl) (gn rfl hg34 (ex_nilCheck rfl rfl) (gn rfl hg34 (ex_fieldAddr (off' := f0 + 3) rfl rfl U28 rfl tsz26 rfl) (gn rfl hg34 (ex_load1 rfl rfl U26 rfl ((HM.at_ hc0) 3 _ rfl)) (gn rfl hg34 (ex_len (d := kOut) (xs := x0.fOuts) rfl rfl U26 hp0_1) (ops_does rfl (guard_on rfl rfl rfl hg34) rfl rfl (does_callk rfl callok50 rfl (spec_l1In.calls (x0 := (x0.fOuts.length : Int)) (x1 := 1) (x2 := 4) (cond_t (not_mk hg34) h32))) ?_)))))
       rintro _ w36 ⟨rfl, hn⟩
       replace HM := HM.callN hn rfl
       exact gn rfl hg34 (ex_not rfl rfl) (ops_ex (v := .bool ((!t15) || (!t16))) rfl (guard_none rfl) rfl rfl (ex_por_f rfl rfl hg34 rfl) (ops_nil (at_meet _ ⟨rfl, HM⟩ (Sub.of rfl))))
     ·rintro _ w37 ⟨rfl, HM⟩
      refine at_then (run_cond (b := ((!t15) || (!t16))) rfl (fun hb38 => ?_) (fun hb38 => ?_))
      ·replace H := cond_t hb38 H
       refine run_seq (run_region rfl (oM rfl (ops_nil (at_then (run_ret (at_then_ret ?_))))))
       cases H
       exact at_ret1 rfl rfl ⟨_, rfl, rfl, HM⟩
      ·replace H := cond_f hb38 H
       refine run_skip (at_then ?_)
       obtain ⟨o17, ho39, H⟩ := bind_some H
       refine run_mid (fun ρ_ w_ => Sum.inr () = o17 ∧ ρ_ = [(0, pA b0 f0)] ∧ Mem w [] w_ []) ?_ ?_
       ·refine run_seq (run_region rfl (oM rfl (ops_nil (at_then (run_block ?_)))))
        refine run_loop (fun k_ ρ_ w_ => ∃ a10 : Int, spec_l3Fault.l0 x0 k_ a10 = some o17 ∧ ρ_ = [(0, pA b0 f0), (3, nI a10)] ∧ Mem w [] w_ []) k ⟨_, ho39, rfl, HM⟩ (Sub.of rfl) ?_
        clear HM ho39
        rintro k40 _ w41 ⟨a10, ho39, rfl, HM⟩
        obtain _ | k40 := k40
        ·exact nomatch ((spec_l3Fault.l0.eq_1 x0 a10).symm.trans ho39)
        replace ho39 := (spec_l3Fault.l0.eq_2 ..).symm.trans ho39
        refine run_seq (run_seq (run_region rfl (oM rfl (oM rfl (oy rfl (ex_nilCheck rfl rfl) (oy rfl (ex_fieldAddr (off' := f0 + 2) rfl rfl U28 rfl tsz25 rfl) (oy rfl (ex_load1 rfl rfl U25 rfl ((HM.at_ hc0) 2 _ rfl)) (oy rfl (ex_len (d := kRef) (xs := x0.fIns) rfl rfl U25 hp0_0) (oy rfl (ex_lss rfl rfl rfl) ?_)))))))))
        refine ops_nil (at_then (run_cond (b := (decide (a10 < (x0.fIns.length : Int)))) rfl (fun hb42 => ?_) (fun hb42 => ?_)))
        ·replace ho39 := cond_t hb42 ho39
         refine run_skip (at_then (run_seq (run_block (run_seq (run_seq ?_)))))
         obtain ⟨e43, ho39⟩ := chk_some ho39
         obtain ⟨t11, h44, ho39⟩ := bind_some ho39
         refine run_region rfl (oM rfl (oy rfl (ex_nilCheck rfl rfl) (oy rfl (ex_fieldAddr (off' := f0 + 2) rfl rfl U28 rfl tsz25 rfl) (oy rfl (ex_load1 rfl rfl U25 rfl ((HM.at_ hc0) 2 _ rfl)) (oM rfl ?_)))))
         have hc45 : CellsAt _ (sb p0_0) (so p0_0 + (a10).toNat * 2) [(nI ((gt x0.fIns a10).fTx)), (nI ((gt x0.fIns a10).fAt))] := rd_plain hp0_0 e43
         refine oy rfl (ex_indexAddr (d := kRef) rfl rfl rfl U25 tsz38 hp0_0 (idx_lo e43) (idx_hi e43)) (oy rfl (ldN rfl rfl U38 rfl tsz38 ((HM.at_ hc45).subL 0 2 rfl) rfl) (oz rfl (does_callk rfl callok84 rfl (spec_l3Ref.calls (x0 := (gt x0.fIns a10)) h44)) ?_))
         rintro _ w46 ⟨rfl, hn⟩
         replace HM := HM.callN hn rfl
         refine oy rfl (ex_not rfl rfl) (ops_nil (at_then (run_cond (b := !t11) rfl (fun hb47 => ?_) (fun hb47 => ?_))))
         ·replace ho39 := cond_t hb47 ho39
          refine run_seq (run_region rfl (oM rfl (ops_nil (at_then (run_ret (at_then_ret (at_block_ret (at_then_ret (at_then_ret (at_block_ret ?_))))))))))
          refine at_then_ret ?_
          cases ho39
          have hT := thn_inl H
          cases hT
          exact at_ret1 rfl rfl ⟨_, rfl, rfl, HM⟩
         ·replace ho39 := cond_f hb47 ho39
          refine run_skip (at_then (run_seq ?_))
          obtain ⟨e48, ho39⟩ := chk_some ho39
          obtain ⟨e49, ho39⟩ := chk_some ho39
          obtain ⟨t12, h50, ho39⟩ := bind_some ho39
          refine run_drawf (fun w_ => Mem w [] w_ []) [(0, true), (1, true), (2, true), (3, true), (4, true), (5, true), (6, true), (7, true), (8, true), (9, true), (10, true), (11, true), (12, true), (13, false)] mixed rfl rfl (by kernel_rfl) ?_
          replace HM := HM.grow (fr_drew _)
          have hS := HM.sufN 0 rfl
          refine dp rfl rfl rfl rfl (ex_move rfl rfl) hS (dp rfl rfl rfl rfl (ex_nilCheck rfl rfl) hS (dp rfl rfl rfl rfl (ex_fieldAddr (off' := f0 + 2) rfl rfl U28 rfl tsz25 rfl) hS (drwp_take rfl (guard_none rfl) rfl rfl (fun w_ hS_ => (ex_load1 rfl rfl U25 rfl ((hS_.at_ hc0) 2 _ rfl))) hS (dp rfl rfl rfl rfl (ex_move rfl rfl) hS (drwp_takeE rfl (guard_none rfl) rfl rfl (ex_cutH kRef rfl rfl rfl U25 tsz38 hp0_0 e48) hS ?_)))))
          rintro u51 hr52
          refine dp rfl rfl rfl rfl (ex_move rfl rfl) hS (dp rfl rfl rfl rfl (ex_nilCheck rfl rfl) hS (dp rfl rfl rfl rfl (ex_fieldAddr (off' := f0 + 2) rfl rfl U28 rfl tsz25 rfl) hS (drwp_take rfl (guard_none rfl) rfl rfl (fun w_ hS_ => (ex_load1 rfl rfl U25 rfl ((hS_.at_ hc0) 2 _ rfl))) hS (dp rfl rfl rfl rfl (ex_move rfl rfl) hS ?_))))
          have hc53 : CellsAt _ (sb p0_0) (so p0_0 + (a10).toNat * 2) [(nI ((gt x0.fIns a10).fTx)), (nI ((gt x0.fIns a10).fAt))] := rd_plain hp0_0 e49
          refine dp rfl rfl rfl rfl (ex_indexAddr (d := kRef) rfl rfl rfl U25 tsz38 hp0_0 (idx_lo e49) (idx_hi e49)) hS (drwp_take rfl (guard_none rfl) rfl rfl (fun w_ hS_ => (ldN rfl rfl U38 rfl tsz38 ((hS_.at_ hc53).subL 0 2 rfl) rfl)) hS (drwp_one rfl (guard_none rfl) rfl rfl (does_callk rfl callok87 rfl (spec_l3Among.calls (x0 := x0.fIns.take (a10).toNat) (x1 := (gt x0.fIns a10)) (HM.rd hr52) h50)) ?_))
          rintro _ w54 ⟨rfl, hn⟩
          replace HM := HM.callN hn rfl
          have hS := HM.sufN 0 rfl
          refine ⟨hS, (drwp_done (at_then (run_cond (b := t12) rfl (fun hb55 => ?_) (fun hb55 => ?_))))⟩
          ·replace ho39 := cond_t hb55 ho39
           refine run_seq (run_region rfl (oM rfl (ops_nil (at_then (run_ret (at_block_ret (at_then_ret (at_then_ret (at_block_ret (at_then_ret ?_))))))))))
           cases ho39
           have hT := thn_inl H
           cases hT
           exact at_ret1 rfl rfl ⟨_, rfl, rfl, HM⟩
          ·replace ho39 := cond_f hb55 ho39
           exact run_skip (at_block (at_then (run_region rfl (oM rfl (oy rfl (ex_add rfl rfl rfl) (oM rfl (ops_nil (at_again k40 (Nat.lt_succ_self _) ⟨_, ho39, rfl, HM⟩ (Sub.of rfl)))))))))
        ·replace ho39 := cond_f hb42 ho39
         exact run_exit (at_then_exit (at_then_exit (at_block_exit (at_mid ⟨(sj ho39), rfl, HM⟩ (Sub.of rfl)))))
       ·rintro _ w56 ⟨rfl, rfl, HM⟩
        replace H := (thn_inr H)
        refine run_seq ?_
        obtain ⟨t18, h57, H⟩ := bind_some H
        refine run_region rfl (oM rfl (oz rfl (does_callk rfl callok88 rfl (spec_l3Outs.calls (x0 := x0) (HM.at_ hc0) (HM.rd hp0_0) (HM.rd hp0_1) h57)) ?_))
        rintro _ w58 ⟨rfl, hn⟩
        replace HM := HM.callN hn rfl
        refine oM rfl (ops_nil (at_then (run_ret ?_)))
        cases H
        exact at_ret1 rfl rfl ⟨_, rfl, rfl, HM⟩
end Go.Proofs.YtecgbhfgkkpmhacGreat.Zk
