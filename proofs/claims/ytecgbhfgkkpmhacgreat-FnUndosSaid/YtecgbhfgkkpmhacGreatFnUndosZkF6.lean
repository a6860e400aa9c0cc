/- What functions of the program compute, each as a plain function, and that they do. Conditions: as each theorem states them. -/
import Derived.Test.YtecgbhfgkkpmhacGreatFnUndosZkF5
namespace Go.Proofs.YtecgbhfgkkpmhacGreat.Zk
open Go Go.RowKit Go.IntWalk Go.Proofs
set_option linter.unusedVariables false
set_option linter.unusedSimpArgs false
set_option maxRecDepth 100000
set_option maxHeartbeats 4000000
def spec_l2Digits.f : Nat → Int → Option ByteArray
 | 0, _ => none
 | k + 1, x0 => (bif (decide (x0 < 10)) then some (strOfNums ([IntKind.u8.wrap (wrap64 (48 + x0))] : List Int)) else (chk ((10 : Int) != 0) (chk ((10 : Int) != 0) ((spec_l2Digits.f k (IntKind.i64.wrap (Int.tdiv x0 (10 : Int)))).bind fun t10 => (chk (leB (t10.size + (strOfNums ([IntKind.u8.wrap (wrap64 (48 + (Int.tmod x0 (10 : Int))))] : List Int)).size) 9223372036854775807) (some (t10 ++ (strOfNums ([IntKind.u8.wrap (wrap64 (48 + (Int.tmod x0 (10 : Int))))] : List Int)))))))))
theorem spec_l2Digits.f_s (k : Nat) (x0 : Int) : spec_l2Digits.f (k + 1) x0 = (bif (decide (x0 < 10)) then some (strOfNums ([IntKind.u8.wrap (wrap64 (48 + x0))] : List Int)) else (chk ((10 : Int) != 0) (chk ((10 : Int) != 0) ((spec_l2Digits.f k (IntKind.i64.wrap (Int.tdiv x0 (10 : Int)))).bind fun t10 => (chk (leB (t10.size + (strOfNums ([IntKind.u8.wrap (wrap64 (48 + (Int.tmod x0 (10 : Int))))] : List Int)).size) 9223372036854775807) (some (t10 ++ (strOfNums ([IntKind.u8.wrap (wrap64 (48 + (Int.tmod x0 (10 : Int))))] : List Int))))))))) := rfl
theorem spec_l2Digits.calls_all : ∀ (k : Nat) (x0 : Int), ∀ {w : World} {r : ByteArray} (H : spec_l2Digits.f k x0 = some r),
  Calls Tryz.prog 118 ([nI x0] : List Value).toArray w (fun e w_ => ∃ v, e = .returned v ∧ v = (.string r) ∧ Mem w [] w_ []) := by
 intro k
 induction k with
 | zero => intro x0  w  r H; exact nomatch H
 | succ k ih =>
 intro x0  w  r H
 have HM := Mem.start w
 refine calls_run (N := 20) Tryz.func118 rfl rfl rfl rfl ?_
 rw [spec_l2Digits.f_s] at H
 refine run_seq (run_region rfl (oM rfl (ops_nil (at_then (run_seq (run_seq (run_region rfl (oM rfl (oy rfl (ex_lss rfl rfl rfl) (ops_nil (at_then (run_cond (b := (decide (x0 < 10))) rfl (fun hb11 => ?_) (fun hb11 => ?_)))))))))))))
 ·replace H := cond_t hb11 H
  refine run_seq (run_region rfl (oM rfl (oy rfl (ex_add rfl rfl rfl) (oy rfl (ex_conv rfl rfl (by rw [U2]; rfl) U5) ?_))))
  refine oz rfl (does_lit (e := 5) (cs := [.int .u8 (IntKind.u8.wrap (wrap64 (48 + x0)))]) (xs := ([IntKind.u8.wrap (wrap64 (48 + x0))] : List Int)) kU8 rfl rfl (fun _ => by kernel_rfl) rfl rfl (fun _ _ h => by have h' : _ = [] := h; subst h'; exact (Elems.cons (d := kU8) (x := IntKind.u8.wrap (wrap64 (48 + x0))) (f := []) ⟨rfl, rfl⟩ .nil)) HM.emp) ?_
  rintro v12 w13 HM
  refine oy rfl (ex_bstr (e := 5) rfl rfl U22 U5 U9 (HM.own_rd 0 rfl)) (oM rfl (ops_nil (at_then (run_ret (at_then_ret ?_)))))
  replace HM := HM.frd 0 rfl
  cases H
  exact at_ret1 rfl rfl ⟨_, rfl, rfl, HM⟩
 ·replace H := cond_f hb11 H
  refine run_skip (at_then (run_seq ?_))
  obtain ⟨e14, H⟩ := chk_some H
  obtain ⟨e15, H⟩ := chk_some H
  obtain ⟨t10, h16, H⟩ := bind_some H
  obtain ⟨e17, H⟩ := chk_some H
  refine run_meet (fun ρ_ w_ => ρ_ = [(2, .string (t10 ++ (strOfNums ([IntKind.u8.wrap (wrap64 (48 + (Int.tmod x0 (10 : Int))))] : List Int))))] ∧ Mem w [] w_ []) ?_ ?_
  ·refine run_draw (fun w_ => Mem w [] w_ []) mixed rfl (l := #[false, false, false, false, false, false, false, false, false, false, false]) rfl ?_
   replace HM := HM.grow (fr_drew _)
   have hS := HM.sufN 0 rfl
   refine drw_cut1 (l' := #[true, true, true, true, true, true, true, true, true, false, false]) (f' := 2) (fun (v18 : Value) => [(2, .string (⟨#[]⟩ : ByteArray)), (12, .string t10), (18, .string (strOfNums ([IntKind.u8.wrap (wrap64 (48 + (Int.tmod x0 (10 : Int))))] : List Int)))]) (fun (v18 : Value) => fun w_ => Mem w [] w_ [own kU8 5 v18 ([IntKind.u8.wrap (wrap64 (48 + (Int.tmod x0 (10 : Int))))] : List Int)]) ?_ (fun K19 => ?_)
   ·rintro v18 w20 HM
    have hS := HM.sufN 1 rfl
    refine dt 9 #[true, true, true, true, true, true, true, true, true, true, false] rfl rfl rfl rfl (by kernel_rfl) (ex_sadd rfl rfl rfl (leB_le e17)) hS ?_
    refine dt 10 #[true, true, true, true, true, true, true, true, true, true, true] rfl rfl rfl rfl (by kernel_rfl) (ex_assign rfl rfl) hS ?_
    refine drw_done (by kernel_rfl) ?_
    replace HM := HM.frd 0 rfl
    exact at_meet _ ⟨rfl, HM⟩ (Sub.of rfl)
   refine drw_cut1 (l' := #[true, true, true, true, true, true, true, true, false, false, false]) (f' := 3) (fun (v18 : Value) => [(2, .string (⟨#[]⟩ : ByteArray)), (12, .string t10), (17, v18)]) (fun (v18 : Value) => fun w_ => Mem w [] w_ [own kU8 5 v18 ([IntKind.u8.wrap (wrap64 (48 + (Int.tmod x0 (10 : Int))))] : List Int)]) ?_ (fun K21 => ?_)
   ·rintro v18 w22 HM
    have hS := HM.sufN 1 rfl
    refine drw_any [8] (by kernel_rfl) rfl (.cons ?_ .nil)
    refine br_does (l' := #[true, true, true, true, true, true, true, true, true, false, false]) rfl (guard_none rfl) rfl rfl (by kernel_rfl) (does_ex' (ex_bstr (e := 5) rfl rfl U22 U5 U9 (HM.own_rd 0 rfl))) ?_
    rintro _ _ ⟨rfl, rfl⟩
    exact ⟨hS, (drw_sub (K19 v18 _ HM) (Sub.of rfl))⟩
   refine dt 0 #[true, false, false, false, false, false, false, false, false, false, false] rfl rfl rfl rfl (by kernel_rfl) (ex_move rfl rfl) hS ?_
   refine dt 1 #[true, true, false, false, false, false, false, false, false, false, false] rfl rfl rfl rfl (by kernel_rfl) (ex_quok rfl rfl rfl e14) hS ?_
   refine dt 3 #[true, true, false, true, false, false, false, false, false, false, false] rfl rfl rfl rfl (by kernel_rfl) (ex_move rfl rfl) hS ?_
   refine dt 4 #[true, true, false, true, true, false, false, false, false, false, false] rfl rfl rfl rfl (by kernel_rfl) (ex_remk rfl rfl rfl e15) hS ?_
   refine dt 5 #[true, true, false, true, true, true, false, false, false, false, false] rfl rfl rfl rfl (by kernel_rfl) (ex_add rfl rfl rfl) hS ?_
   refine dt 6 #[true, true, false, true, true, true, true, false, false, false, false] rfl rfl rfl rfl (by kernel_rfl) (ex_conv rfl rfl (by rw [U2]; rfl) U5) hS ?_
   refine drw_any [2, 7] (by kernel_rfl) rfl (.cons ?_ (.cons ?_ .nil))
   ·refine br_does (l' := #[true, true, true, true, true, true, true, false, false, false, false]) rfl (guard_none rfl) rfl rfl (by kernel_rfl) (does_callk rfl callok118 rfl (ih (IntKind.i64.wrap (Int.tdiv x0 (10 : Int))) h16)) ?_
    rintro _ w23 ⟨rfl, hn⟩
    replace HM := HM.callN hn rfl
    have hS := HM.sufN 0 rfl
    refine ⟨hS, (drw_any [7] (by kernel_rfl) rfl (.cons ?_ .nil))⟩
    refine br_does (l' := #[true, true, true, true, true, true, true, true, false, false, false]) rfl (guard_none rfl) rfl rfl (by kernel_rfl) (does_lit (e := 5) (cs := [.int .u8 (IntKind.u8.wrap (wrap64 (48 + (Int.tmod x0 (10 : Int)))))]) (xs := ([IntKind.u8.wrap (wrap64 (48 + (Int.tmod x0 (10 : Int))))] : List Int)) kU8 rfl rfl (fun _ => by kernel_rfl) rfl rfl (fun _ _ h => by have h' : _ = [] := h; subst h'; exact (Elems.cons (d := kU8) (x := IntKind.u8.wrap (wrap64 (48 + (Int.tmod x0 (10 : Int))))) (f := []) ⟨rfl, rfl⟩ .nil)) HM.emp) ?_
    rintro v18 w24 HM
    have hS := HM.sufN 1 rfl
    exact ⟨hS, (drw_sub (K21 v18 _ HM) (Sub.of rfl))⟩
   ·refine br_does (l' := #[true, true, false, true, true, true, true, true, false, false, false]) rfl (guard_none rfl) rfl rfl (by kernel_rfl) (does_lit (e := 5) (cs := [.int .u8 (IntKind.u8.wrap (wrap64 (48 + (Int.tmod x0 (10 : Int)))))]) (xs := ([IntKind.u8.wrap (wrap64 (48 + (Int.tmod x0 (10 : Int))))] : List Int)) kU8 rfl rfl (fun _ => by kernel_rfl) rfl rfl (fun _ _ h => by have h' : _ = [] := h; subst h'; exact (Elems.cons (d := kU8) (x := IntKind.u8.wrap (wrap64 (48 + (Int.tmod x0 (10 : Int))))) (f := []) ⟨rfl, rfl⟩ .nil)) HM.emp) ?_
    rintro v18 w25 HM
    have hS := HM.sufN 1 rfl
    refine ⟨hS, (drw_any [2, 8] (by kernel_rfl) rfl (.cons ?_ (.cons ?_ .nil)))⟩
    ·refine br_does (l' := #[true, true, true, true, true, true, true, true, false, false, false]) rfl (guard_none rfl) rfl rfl (by kernel_rfl) (does_callk rfl callok118 rfl (ih (IntKind.i64.wrap (Int.tdiv x0 (10 : Int))) h16)) ?_
     rintro _ w26 ⟨rfl, hn⟩
     replace HM := HM.callN hn rfl
     have hS := HM.sufN 1 rfl
     exact ⟨hS, (drw_sub (K21 v18 _ HM) (Sub.of rfl))⟩
    ·refine br_does (l' := #[true, true, false, true, true, true, true, true, true, false, false]) rfl (guard_none rfl) rfl rfl (by kernel_rfl) (does_ex' (ex_bstr (e := 5) rfl rfl U22 U5 U9 (HM.own_rd 0 rfl))) ?_
     rintro _ _ ⟨rfl, rfl⟩
     refine ⟨hS, (drw_any [2] (by kernel_rfl) rfl (.cons ?_ .nil))⟩
     refine br_does (l' := #[true, true, true, true, true, true, true, true, true, false, false]) rfl (guard_none rfl) rfl rfl (by kernel_rfl) (does_callk rfl callok118 rfl (ih (IntKind.i64.wrap (Int.tdiv x0 (10 : Int))) h16)) ?_
     rintro _ w27 ⟨rfl, hn⟩
     replace HM := HM.callN hn rfl
     have hS := HM.sufN 1 rfl
     exact ⟨hS, (drw_sub (K19 v18 _ HM) (Sub.of rfl))⟩
  ·rintro _ w28 ⟨rfl, HM⟩
   refine at_then (run_ret ?_)
   cases H
   exact at_ret1 rfl rfl ⟨_, rfl, rfl, HM⟩
theorem spec_l2Digits.calls {k : Nat} {x0 : Int}  {w : World}  {r : ByteArray} (H : spec_l2Digits.f k x0 = some r) :
  Calls Tryz.prog 118 ([nI x0] : List Value).toArray w (fun e w_ => ∃ v, e = .returned v ∧ v = (.string r) ∧ Mem w [] w_ []) := spec_l2Digits.calls_all k x0  H

def spec_l2Text.l0 (x0 : Rule) : Nat → ByteArray → Int → Option ByteArray
 | 0, _, _ => none
 | k + 1, a10, a11 => (bif (decide (a11 < (x0.fKeys.length : Int))) then (chk (leB (a10.size + (⟨#[44]⟩ : ByteArray).size) 9223372036854775807) (chk (idxOk a11 x0.fKeys.length) ((spec_l2Digits.f k (gt x0.fKeys a11)).bind fun t12 => (chk (leB ((a10 ++ (⟨#[44]⟩ : ByteArray)).size + t12.size) 9223372036854775807) (spec_l2Text.l0 x0 k ((a10 ++ (⟨#[44]⟩ : ByteArray)) ++ t12) (wrap64 (a11 + 1))))))) else some a10)
def spec_l2Text.f (k : Nat) (x0 : Rule) : Option ByteArray := (chk (idxOk (0 : Int) x0.fKeys.length) ((spec_l2Digits.f k x0.fNeed).bind fun t13 => (chk (leB (t13.size + (⟨#[32, 111, 102, 32]⟩ : ByteArray).size) 9223372036854775807) ((spec_l2Digits.f k (gt x0.fKeys (0 : Int))).bind fun t14 => (chk (leB ((t13 ++ (⟨#[32, 111, 102, 32]⟩ : ByteArray)).size + t14.size) 9223372036854775807) ((spec_l2Text.l0 x0 k ((t13 ++ (⟨#[32, 111, 102, 32]⟩ : ByteArray)) ++ t14) 1).bind (fun a15 => (bif (x0.fAfter != 0) then (chk (leB (a15.size + (⟨#[32, 97, 102, 116, 101, 114, 32]⟩ : ByteArray).size) 9223372036854775807) ((spec_l2Digits.f k x0.fAfter).bind fun t16 => (chk (leB ((a15 ++ (⟨#[32, 97, 102, 116, 101, 114, 32]⟩ : ByteArray)).size + t16.size) 9223372036854775807) (some ((a15 ++ (⟨#[32, 97, 102, 116, 101, 114, 32]⟩ : ByteArray)) ++ t16))))) else some a15))))))))
theorem spec_l2Text.calls {k : Nat} {x0 : Rule} {b0 f0 : Nat} {p0_0 : Value} {w : World} (hc0 : CellsAt w b0 f0 [p0_0, nI x0.fNeed, nI x0.fAfter]) (hp0_0 : RdS kInt w p0_0 x0.fKeys) {r : ByteArray} (H : spec_l2Text.f k x0 = some r) :
  Calls Tryz.prog 120 ([pA b0 f0] : List Value).toArray w (fun e w_ => ∃ v, e = .returned v ∧ v = (.string r) ∧ Mem w [] w_ []) := by
 have HM := Mem.start w
 refine calls_run (N := 53) Tryz.func120 rfl rfl rfl rfl ?_
 unfold spec_l2Text.f at H
 refine run_seq (run_region rfl (oM rfl (ops_nil (at_then (run_seq ?_)))))
 obtain ⟨e17, H⟩ := chk_some H
 obtain ⟨t13, h18, H⟩ := bind_some H
 obtain ⟨e19, H⟩ := chk_some H
 obtain ⟨t14, h20, H⟩ := bind_some H
 obtain ⟨e21, H⟩ := chk_some H
 refine run_drawf (fun w_ => Mem w [] w_ []) [(0, true), (1, true), (2, true), (3, true), (6, true), (7, true), (8, true), (9, true), (10, true), (11, true), (4, false), (5, true), (12, false), (13, true), (14, true)] mixed rfl rfl (by kernel_rfl) ?_
 replace HM := HM.grow (fr_drew _)
 have hS := HM.sufN 0 rfl
 refine dp rfl rfl rfl rfl (ex_move rfl rfl) hS (dp rfl rfl rfl rfl (ex_nilCheck rfl rfl) hS (dp rfl rfl rfl rfl (ex_fieldAddr (off' := f0 + 1) rfl rfl U66 rfl tsz2 rfl) hS (drwp_take rfl (guard_none rfl) rfl rfl (fun w_ hS_ => (ex_load1 rfl rfl U2 rfl ((hS_.at_ hc0) 1 _ rfl))) hS (dp rfl rfl rfl rfl (ex_move rfl rfl) hS (dp rfl rfl rfl rfl (ex_nilCheck rfl rfl) hS (dp rfl rfl rfl rfl (ex_fieldAddr (off' := f0) rfl rfl U66 rfl tsz58 rfl) hS (drwp_take rfl (guard_none rfl) rfl rfl (fun w_ hS_ => (ex_load1 rfl rfl U58 rfl ((hS_.at_ hc0) 0 _ rfl))) hS ?_)))))))
 have hc22 : CellsAt _ (sb p0_0) (so p0_0 + ((0 : Int)).toNat * 1) [(nI (gt x0.fKeys (0 : Int)))] := rd_plain hp0_0 e17
 refine dp rfl rfl rfl rfl (ex_indexAddr (d := kInt) rfl rfl rfl U58 tsz2 hp0_0 (idx_lo e17) (idx_hi e17)) hS (drwp_take rfl (guard_none rfl) rfl rfl (fun w_ hS_ => (ex_load1 rfl rfl U2 rfl ((hS_.at_ hc22) 0 _ rfl))) hS (drwp_one rfl (guard_none rfl) rfl rfl (does_callk rfl callok118 rfl (spec_l2Digits.calls (x0 := x0.fNeed) h18)) ?_))
 rintro _ w23 ⟨rfl, hn⟩
 replace HM := HM.callN hn rfl
 have hS := HM.sufN 0 rfl
 refine ⟨hS, (dp rfl rfl rfl rfl (ex_sadd rfl rfl rfl (leB_le e19)) hS (drwp_one rfl (guard_none rfl) rfl rfl (does_callk rfl callok118 rfl (spec_l2Digits.calls (x0 := (gt x0.fKeys (0 : Int))) h20)) ?_))⟩
 rintro _ w24 ⟨rfl, hn⟩
 replace HM := HM.callN hn rfl
 have hS := HM.sufN 0 rfl
 refine ⟨hS, (dp rfl rfl rfl rfl (ex_sadd rfl rfl rfl (leB_le e21)) hS (dp rfl rfl rfl rfl (ex_assign rfl rfl) hS (drwp_done (at_then ?_))))⟩
 obtain ⟨o25, ho26, H⟩ := bind_some H
 refine run_mid (fun ρ_ w_ => ∃ a15 : ByteArray, a15 = o25 ∧ ρ_ = [(0, pA b0 f0), (3, .string a15)] ∧ Mem w [] w_ []) ?_ ?_
 ·clear H
  refine run_seq (run_region rfl (oM rfl (ops_nil (at_then (run_block ?_)))))
  refine run_loop (fun k_ ρ_ w_ => ∃ a10 : ByteArray, ∃ a11 : Int, spec_l2Text.l0 x0 k_ a10 a11 = some o25 ∧ ρ_ = [(0, pA b0 f0), (3, .string a10), (4, nI a11)] ∧ Mem w [] w_ []) k ⟨_, _, ho26, rfl, HM⟩ (Sub.of rfl) ?_
  clear HM ho26
  rintro k27 _ w28 ⟨a10, a11, ho26, rfl, HM⟩
  obtain _ | k27 := k27
  ·exact nomatch ((spec_l2Text.l0.eq_1 x0 a10 a11).symm.trans ho26)
  replace ho26 := (spec_l2Text.l0.eq_2 ..).symm.trans ho26
  refine run_seq (run_seq (run_region rfl (oM rfl (oM rfl (oy rfl (ex_nilCheck rfl rfl) (oy rfl (ex_fieldAddr (off' := f0) rfl rfl U66 rfl tsz58 rfl) (oy rfl (ex_load1 rfl rfl U58 rfl ((HM.at_ hc0) 0 _ rfl)) (oy rfl (ex_len (d := kInt) (xs := x0.fKeys) rfl rfl U58 hp0_0) (oy rfl (ex_lss rfl rfl rfl) ?_)))))))))
  refine ops_nil (at_then (run_cond (b := (decide (a11 < (x0.fKeys.length : Int)))) rfl (fun hb29 => ?_) (fun hb29 => ?_)))
  ·replace ho26 := cond_t hb29 ho26
   refine run_skip (at_then (run_seq (run_block ?_)))
   obtain ⟨e30, ho26⟩ := chk_some ho26
   obtain ⟨e31, ho26⟩ := chk_some ho26
   obtain ⟨t12, h32, ho26⟩ := bind_some ho26
   obtain ⟨e33, ho26⟩ := chk_some ho26
   refine run_region rfl (oM rfl (oy rfl (ex_sadd rfl rfl rfl (leB_le e30)) (oM rfl (oy rfl (ex_nilCheck rfl rfl) (oy rfl (ex_fieldAddr (off' := f0) rfl rfl U66 rfl tsz58 rfl) (oy rfl (ex_load1 rfl rfl U58 rfl ((HM.at_ hc0) 0 _ rfl)) (oM rfl ?_)))))))
   have hc34 : CellsAt _ (sb p0_0) (so p0_0 + (a11).toNat * 1) [(nI (gt x0.fKeys a11))] := rd_plain hp0_0 e31
   refine oy rfl (ex_indexAddr (d := kInt) rfl rfl rfl U58 tsz2 hp0_0 (idx_lo e31) (idx_hi e31)) (oy rfl (ex_load1 rfl rfl U2 rfl ((HM.at_ hc34) 0 _ rfl)) (oz rfl (does_callk rfl callok118 rfl (spec_l2Digits.calls (x0 := (gt x0.fKeys a11)) h32)) ?_))
   rintro _ w35 ⟨rfl, hn⟩
   replace HM := HM.callN hn rfl
   refine oy rfl (ex_sadd rfl rfl rfl (leB_le e33)) (oM rfl (ops_nil (at_block (at_then (run_region rfl (oM rfl (oy rfl (ex_add rfl rfl rfl) (oM rfl (ops_nil ?_)))))))))
   exact at_again k27 (Nat.lt_succ_self _) ⟨_, _, ho26, rfl, HM⟩ (Sub.of rfl)
  ·replace ho26 := cond_f hb29 ho26
   exact run_exit (at_then_exit (at_then_exit (at_block_exit (at_mid ⟨_, (sj ho26), rfl, HM⟩ (Sub.of rfl)))))
 ·rintro _ w36 ⟨a15, rfl, rfl, HM⟩
  refine run_seq (run_seq (run_region rfl (oM rfl (oy rfl (ex_nilCheck rfl rfl) (oy rfl (ex_fieldAddr (off' := f0 + 2) rfl rfl U66 rfl tsz2 rfl) (oy rfl (ex_load1 rfl rfl U2 rfl ((HM.at_ hc0) 2 _ rfl)) (oy rfl (ex_neq rfl rfl rfl) (ops_nil (at_then (run_cond (b := (x0.fAfter != 0)) rfl (fun hb37 => ?_) (fun hb37 => ?_)))))))))))
  ·replace H := cond_t hb37 H
   obtain ⟨e38, H⟩ := chk_some H
   obtain ⟨t16, h39, H⟩ := bind_some H
   obtain ⟨e40, H⟩ := chk_some H
   refine run_region rfl (oM rfl (oy rfl (ex_sadd rfl rfl rfl (leB_le e38)) (oM rfl (oy rfl (ex_nilCheck rfl rfl) (oy rfl (ex_fieldAddr (off' := f0 + 2) rfl rfl U66 rfl tsz2 rfl) (oy rfl (ex_load1 rfl rfl U2 rfl ((HM.at_ hc0) 2 _ rfl)) (oz rfl (does_callk rfl callok118 rfl (spec_l2Digits.calls (x0 := x0.fAfter) h39)) ?_)))))))
   rintro _ w41 ⟨rfl, hn⟩
   replace HM := HM.callN hn rfl
   refine oy rfl (ex_sadd rfl rfl rfl (leB_le e40)) (oM rfl (ops_nil (at_then (run_seq (run_region rfl (oM rfl (oM rfl (ops_nil (at_then (run_ret ?_))))))))))
   cases H
   exact at_ret1 rfl rfl ⟨_, rfl, rfl, HM⟩
  ·replace H := cond_f hb37 H
   refine run_skip (at_then (run_seq (run_region rfl (oM rfl (oM rfl (ops_nil (at_then (run_ret ?_))))))))
   cases H
   exact at_ret1 rfl rfl ⟨_, rfl, rfl, HM⟩

def spec_l3Swap.l0 (x1 : Int) (x2 : Int) : Nat → (List Int) → Int → Option ((List Int))
 | 0, _, _ => none
 | k + 1, a10, a11 => (bif (decide (a11 < (a10.length : Int))) then (chk (idxOk a11 a10.length) (bif ((gt a10 a11) == x1) then (chk (idxOk a11 a10.length) (spec_l3Swap.l0 x1 x2 k (a10.set (a11).toNat x2) (wrap64 (a11 + 1)))) else spec_l3Swap.l0 x1 x2 k a10 (wrap64 (a11 + 1)))) else some a10)
def spec_l3Swap.f (k : Nat) (x0 : ByteArray) (x1 : Int) (x2 : Int) : Option ByteArray := ((spec_l3Swap.l0 x1 x2 k (strNums x0) 0).bind (fun a12 => some (strOfNums a12)))
theorem spec_l3Swap.calls {k : Nat} {x0 : ByteArray} {x1 : Int} {x2 : Int}  {w : World}  {r : ByteArray} (H : spec_l3Swap.f k x0 x1 x2 = some r) :
  Calls Tryz.prog 119 ([.string x0, .int .u8 x1, .int .u8 x2] : List Value).toArray w (fun e w_ => ∃ v, e = .returned v ∧ v = (.string r) ∧ Mem w [] w_ []) := by
 have HM := Mem.start w
 refine calls_run (N := 29) Tryz.func119 rfl rfl rfl rfl ?_
 unfold spec_l3Swap.f at H
 refine run_seq (run_region rfl (oM rfl (ops_nil (at_then (run_seq (run_region rfl (oM rfl (oz rfl (does_sbytes (e := 5) rfl rfl U9 U22 U5 HM) ?_))))))))
 rintro v13 w14 HM
 refine oM rfl (ops_nil (at_then ?_))
 obtain ⟨o15, ho16, H⟩ := bind_some H
 refine run_mid (fun ρ_ w_ => ∃ v17 : Value, ∃ a12 : List Int, a12 = o15 ∧ ρ_ = [(7, v17)] ∧ Mem w [] w_ [brow 5 v17 a12]) ?_ ?_
 ·clear H
  refine run_seq (run_region rfl (oM rfl (ops_nil (at_then (run_block ?_)))))
  refine run_loop (fun k_ ρ_ w_ => ∃ v18 : Value, ∃ a10 : List Int, ∃ a11 : Int, spec_l3Swap.l0 x1 x2 k_ a10 a11 = some o15 ∧ ρ_ = [(1, .int .u8 x1), (2, .int .u8 x2), (7, v18), (8, nI a11)] ∧ Mem w [] w_ [brow 5 v18 a10]) k ⟨_, _, _, ho16, rfl, HM⟩ (Sub.of rfl) ?_
  clear HM ho16
  rintro k19 _ w20 ⟨v18, a10, a11, ho16, rfl, HM⟩
  obtain _ | k19 := k19
  ·exact nomatch ((spec_l3Swap.l0.eq_1 x1 x2 a10 a11).symm.trans ho16)
  replace ho16 := (spec_l3Swap.l0.eq_2 ..).symm.trans ho16
  refine run_seq (run_seq (run_region rfl (oM rfl (oM rfl (oy rfl (ex_len (d := kU8) (xs := a10) rfl rfl U22 (HM.brow_rd (hl := fun _ => rfl) (h1 := fun _ => onesC rfl onesN) 0 rfl)) (oy rfl (ex_lss rfl rfl rfl) (ops_nil (at_then (run_cond (b := (decide (a11 < (a10.length : Int)))) rfl (fun hb21 => ?_) (fun hb21 => ?_))))))))))
  ·replace ho16 := cond_t hb21 ho16
   refine run_skip (at_then (run_seq (run_block (run_seq ?_))))
   obtain ⟨e22, ho16⟩ := chk_some ho16
   refine run_region rfl (oM rfl (oM rfl (oy rfl (ex_indexAddr (d := kU8) rfl rfl rfl U22 tsz5 (HM.brow_rd (hl := fun _ => rfl) (h1 := fun _ => onesC rfl onesN) 0 rfl) (idx_lo e22) (idx_hi e22)) (oy rfl (ex_load1 rfl rfl U5 rfl ((rd_plain (HM.brow_rd (hl := fun _ => rfl) (h1 := fun _ => onesC rfl onesN) 0 rfl) e22) 0 _ rfl)) (oM rfl (oy rfl (ex_eql rfl rfl rfl) (ops_nil (at_then (run_cond (b := ((gt a10 a11) == x1)) rfl (fun hb23 => ?_) (fun hb23 => ?_))))))))))
   ·replace ho16 := cond_t hb23 ho16
    obtain ⟨e24, ho16⟩ := chk_some ho16
    refine run_region rfl (oM rfl (oM rfl (oM rfl (oy rfl (ex_indexAddr (d := kU8) rfl rfl rfl U22 tsz5 (HM.brow_rd (hl := fun _ => rfl) (h1 := fun _ => onesC rfl onesN) 0 rfl) (idx_lo e24) (idx_hi e24)) (odS rfl rfl rfl (does_setB rfl rfl rfl rfl tsz5 (idx_nat e24) HM) ?_)))))
    rintro w25 HM
    exact ops_nil (at_block (at_then (run_region rfl (oM rfl (oy rfl (ex_add rfl rfl rfl) (oM rfl (ops_nil (at_again k19 (Nat.lt_succ_self _) ⟨_, _, _, ho16, rfl, HM⟩ (Sub.of rfl)))))))))
   ·replace ho16 := cond_f hb23 ho16
    exact run_skip (at_block (at_then (run_region rfl (oM rfl (oy rfl (ex_add rfl rfl rfl) (oM rfl (ops_nil (at_again k19 (Nat.lt_succ_self _) ⟨_, _, _, ho16, rfl, HM⟩ (Sub.of rfl)))))))))
  ·replace ho16 := cond_f hb21 ho16
   exact run_exit (at_then_exit (at_then_exit (at_block_exit (at_mid ⟨_, _, (sj ho16), rfl, HM⟩ (Sub.of rfl)))))
 ·rintro _ w26 ⟨v17, a12, rfl, rfl, HM⟩
  refine run_seq (run_region rfl (oM rfl (oy rfl (ex_bstr (e := 5) rfl rfl U22 U5 U9 (HM.brow_rd (hl := fun _ => rfl) (h1 := fun _ => onesC rfl onesN) 0 rfl)) (oM rfl (ops_nil (at_then (run_ret ?_)))))))
  replace HM := HM.frd 0 rfl
  cases H
  exact at_ret1 rfl rfl ⟨_, rfl, rfl, HM⟩

def spec_l3Text.l0 (x0 : Tx) : Nat → ByteArray → Int → Option ByteArray
 | 0, _, _ => none
 | k + 1, a10, a11 => (bif (decide (a11 < (x0.fIns.length : Int))) then ((bif (a11 == 0) then some (⟨#[32]⟩ : ByteArray) else some (⟨#[43]⟩ : ByteArray)).bind (fun a12 => (chk (leB (a10.size + a12.size) 9223372036854775807) (chk (idxOk a11 x0.fIns.length) (chk (idxOk a11 x0.fIns.length) ((spec_l2Digits.f k ((gt x0.fIns a11).fTx)).bind fun t13 => (chk (leB ((a10 ++ a12).size + t13.size) 9223372036854775807) (chk (leB (((a10 ++ a12) ++ t13).size + (⟨#[58]⟩ : ByteArray).size) 9223372036854775807) ((spec_l2Digits.f k ((gt x0.fIns a11).fAt)).bind fun t14 => (chk (leB ((((a10 ++ a12) ++ t13) ++ (⟨#[58]⟩ : ByteArray)).size + t14.size) 9223372036854775807) (spec_l3Text.l0 x0 k ((((a10 ++ a12) ++ t13) ++ (⟨#[58]⟩ : ByteArray)) ++ t14) (wrap64 (a11 + 1))))))))))))) else some a10)
def spec_l3Text.l1 (x0 : Tx) : Nat → ByteArray → Int → Option ByteArray
 | 0, _, _ => none
 | k + 1, a15, a16 => (bif (decide (a16 < (x0.fOuts.length : Int))) then (chk (leB (a15.size + (⟨#[32]⟩ : ByteArray).size) 9223372036854775807) (chk (idxOk a16 x0.fOuts.length) (chk (idxOk a16 x0.fOuts.length) ((spec_l2Digits.f k ((gt x0.fOuts a16).fValue)).bind fun t17 => (chk (leB ((a15 ++ (⟨#[32]⟩ : ByteArray)).size + t17.size) 9223372036854775807) (chk (leB (((a15 ++ (⟨#[32]⟩ : ByteArray)) ++ t17).size + (⟨#[61]⟩ : ByteArray).size) 9223372036854775807) ((spec_l2Text.f k ((gt x0.fOuts a16).fRule)).bind fun t18 => ((spec_l3Swap.f k t18 32 95).bind fun t19 => (chk (leB ((((a15 ++ (⟨#[32]⟩ : ByteArray)) ++ t17) ++ (⟨#[61]⟩ : ByteArray)).size + t19.size) 9223372036854775807) (spec_l3Text.l1 x0 k ((((a15 ++ (⟨#[32]⟩ : ByteArray)) ++ t17) ++ (⟨#[61]⟩ : ByteArray)) ++ t19) (wrap64 (a16 + 1)))))))))))) else some a15)
def spec_l3Text.f (k : Nat) (x0 : Tx) : Option ByteArray := (chk (idxOk x0.fKind ([(⟨#[112, 97, 121]⟩ : ByteArray), (⟨#[106, 111, 105, 110, 32]⟩ : ByteArray), (⟨#[108, 101, 97, 118, 101, 32]⟩ : ByteArray)] : List ByteArray).length) ((bif (x0.fKind != 0) then ((spec_l2Digits.f k x0.fMember).bind fun t20 => (chk (leB ((gt ([(⟨#[112, 97, 121]⟩ : ByteArray), (⟨#[106, 111, 105, 110, 32]⟩ : ByteArray), (⟨#[108, 101, 97, 118, 101, 32]⟩ : ByteArray)] : List ByteArray) x0.fKind).size + t20.size) 9223372036854775807) (some ((gt ([(⟨#[112, 97, 121]⟩ : ByteArray), (⟨#[106, 111, 105, 110, 32]⟩ : ByteArray), (⟨#[108, 101, 97, 118, 101, 32]⟩ : ByteArray)] : List ByteArray) x0.fKind) ++ t20)))) else some (gt ([(⟨#[112, 97, 121]⟩ : ByteArray), (⟨#[106, 111, 105, 110, 32]⟩ : ByteArray), (⟨#[108, 101, 97, 118, 101, 32]⟩ : ByteArray)] : List ByteArray) x0.fKind)).bind (fun a21 => ((spec_l3Text.l0 x0 k a21 0).bind (fun a22 => ((spec_l3Text.l1 x0 k a22 0).bind (fun a23 => some a23)))))))
theorem spec_l3Text.calls {k : Nat} {x0 : Tx} {b0 f0 : Nat} {p0_0 : Value} {p0_1 : Value} {w : World} (hc0 : CellsAt w b0 f0 [nI x0.fKind, nI x0.fMember, p0_0, p0_1]) (hp0_0 : RdS kRef w p0_0 x0.fIns) (hp0_1 : RdS kOut w p0_1 x0.fOuts) {r : ByteArray} (H : spec_l3Text.f k x0 = some r) :
  Calls Tryz.prog 110 ([pA b0 f0] : List Value).toArray w (fun e w_ => ∃ v, e = .returned v ∧ v = (.string r) ∧ Mem w [] w_ []) := by
 have HM := Mem.start w
 refine calls_run (N := 94) Tryz.func110 rfl rfl rfl rfl ?_
 unfold spec_l3Text.f at H
 refine run_seq (run_region rfl (oM rfl (ops_nil (at_then (run_seq ?_)))))
 obtain ⟨e24, H⟩ := chk_some H
 refine run_region rfl (oz rfl (does_lit (e := 9) (cs := [.string (⟨#[112, 97, 121]⟩ : ByteArray), .string (⟨#[106, 111, 105, 110, 32]⟩ : ByteArray), .string (⟨#[108, 101, 97, 118, 101, 32]⟩ : ByteArray)]) (xs := ([(⟨#[112, 97, 121]⟩ : ByteArray), (⟨#[106, 111, 105, 110, 32]⟩ : ByteArray), (⟨#[108, 101, 97, 118, 101, 32]⟩ : ByteArray)] : List ByteArray)) kStr rfl rfl (fun _ => by kernel_rfl) rfl rfl (fun _ _ h => by have h' : _ = [] := h; subst h'; exact (Elems.cons (d := kStr) (x := (⟨#[112, 97, 121]⟩ : ByteArray)) (f := []) ⟨rfl, rfl⟩ (Elems.cons (d := kStr) (x := (⟨#[106, 111, 105, 110, 32]⟩ : ByteArray)) (f := []) ⟨rfl, rfl⟩ (Elems.cons (d := kStr) (x := (⟨#[108, 101, 97, 118, 101, 32]⟩ : ByteArray)) (f := []) ⟨rfl, rfl⟩ .nil)))) HM.emp) ?_)
 rintro v25 w26 HM
 refine oM rfl (oy rfl (ex_nilCheck rfl rfl) (oy rfl (ex_fieldAddr (off' := f0) rfl rfl U28 rfl tsz2 rfl) (oy rfl (ex_load1 rfl rfl U2 rfl ((HM.at_ hc0) 0 _ rfl)) (oy rfl (ex_indexAddr (d := kStr) rfl rfl rfl U43 tsz9 (HM.own_rd 0 rfl) (idx_lo e24) (idx_hi e24)) (oy rfl (ex_load1 rfl rfl U9 rfl ((rd_plain (HM.own_rd 0 rfl) e24) 0 _ rfl)) (oM rfl (ops_nil (at_then ?_))))))))
 obtain ⟨o27, ho28, H⟩ := bind_some H
 refine run_mid (fun ρ_ w_ => ∃ a21 : ByteArray, a21 = o27 ∧ ρ_ = [(0, pA b0 f0), (3, .string a21)] ∧ Mem w [] w_ []) ?_ ?_
 ·clear H
  refine run_seq (run_region rfl (oM rfl (oy rfl (ex_nilCheck rfl rfl) (oy rfl (ex_fieldAddr (off' := f0) rfl rfl U28 rfl tsz2 rfl) (oy rfl (ex_load1 rfl rfl U2 rfl ((HM.at_ hc0) 0 _ rfl)) (oy rfl (ex_neq rfl rfl rfl) (ops_nil (at_then (run_cond (b := (x0.fKind != 0)) rfl (fun hb29 => ?_) (fun hb29 => ?_))))))))))
  ·replace ho28 := cond_t hb29 ho28
   obtain ⟨t20, h30, ho28⟩ := bind_some ho28
   obtain ⟨e31, ho28⟩ := chk_some ho28
   refine run_region rfl (oM rfl (oM rfl (oy rfl (ex_nilCheck rfl rfl) (oy rfl (ex_fieldAddr (off' := f0 + 1) rfl rfl U28 rfl tsz2 rfl) (oy rfl (ex_load1 rfl rfl U2 rfl ((HM.at_ hc0) 1 _ rfl)) (oz rfl (does_callk rfl callok118 rfl (spec_l2Digits.calls (x0 := x0.fMember) h30)) ?_))))))
   rintro _ w32 ⟨rfl, hn⟩
   replace HM := HM.callN hn rfl
   refine oy rfl (ex_sadd rfl rfl rfl (leB_le e31)) (oM rfl (ops_nil ?_))
   replace HM := HM.frd 0 rfl
   exact at_mid ⟨_, (sj ho28), rfl, HM⟩ (Sub.of rfl)
  ·replace ho28 := cond_f hb29 ho28
   refine run_skip ?_
   replace HM := HM.frd 0 rfl
   exact at_mid ⟨_, (sj ho28), rfl, HM⟩ (Sub.of rfl)
 ·rintro _ w33 ⟨a21, rfl, rfl, HM⟩
  obtain ⟨o34, ho35, H⟩ := bind_some H
  refine run_mid (fun ρ_ w_ => ∃ a22 : ByteArray, a22 = o34 ∧ ρ_ = [(0, pA b0 f0), (3, .string a22)] ∧ Mem w [] w_ []) ?_ ?_
  ·clear H
   refine run_seq (run_region rfl (oM rfl (ops_nil (at_then (run_block ?_)))))
   refine run_loop (fun k_ ρ_ w_ => ∃ a10 : ByteArray, ∃ a11 : Int, spec_l3Text.l0 x0 k_ a10 a11 = some o34 ∧ ρ_ = [(0, pA b0 f0), (3, .string a10), (4, nI a11)] ∧ Mem w [] w_ []) k ⟨_, _, ho35, rfl, HM⟩ (Sub.of rfl) ?_
   clear HM ho35
   rintro k36 _ w37 ⟨a10, a11, ho35, rfl, HM⟩
   obtain _ | k36 := k36
   ·exact nomatch ((spec_l3Text.l0.eq_1 x0 a10 a11).symm.trans ho35)
   replace ho35 := (spec_l3Text.l0.eq_2 ..).symm.trans ho35
   refine run_seq (run_seq (run_region rfl (oM rfl (oM rfl (oy rfl (ex_nilCheck rfl rfl) (oy rfl (ex_fieldAddr (off' := f0 + 2) rfl rfl U28 rfl tsz25 rfl) (oy rfl (ex_load1 rfl rfl U25 rfl ((HM.at_ hc0) 2 _ rfl)) (oy rfl (ex_len (d := kRef) (xs := x0.fIns) rfl rfl U25 hp0_0) (oy rfl (ex_lss rfl rfl rfl) ?_)))))))))
   refine ops_nil (at_then (run_cond (b := (decide (a11 < (x0.fIns.length : Int)))) rfl (fun hb38 => ?_) (fun hb38 => ?_)))
   ·replace ho35 := cond_t hb38 ho35
    refine run_skip (at_then (run_seq (run_block (run_seq (run_region rfl (oM rfl (ops_nil (at_then ?_))))))))
    obtain ⟨o39, ho40, ho35⟩ := bind_some ho35
    refine run_mid (fun ρ_ w_ => ∃ a12 : ByteArray, a12 = o39 ∧ ρ_ = [(0, pA b0 f0), (3, .string a10), (4, nI a11), (5, .string a12)] ∧ Mem w [] w_ []) ?_ ?_
    ·clear ho35
     refine run_seq (run_region rfl (oM rfl (oy rfl (ex_eql rfl rfl rfl) (ops_nil (at_then (run_cond (b := (a11 == 0)) rfl (fun hb41 => ?_) (fun hb41 => ?_)))))))
     ·replace ho40 := cond_t hb41 ho40
      exact run_region rfl (oM rfl (ops_nil (at_mid ⟨_, (sj ho40), rfl, HM⟩ (Sub.of rfl))))
     ·replace ho40 := cond_f hb41 ho40
      exact run_skip (at_mid ⟨_, (sj ho40), rfl, HM⟩ (Sub.of rfl))
    ·rintro _ w42 ⟨a12, rfl, rfl, HM⟩
     obtain ⟨e43, ho35⟩ := chk_some ho35
     obtain ⟨e44, ho35⟩ := chk_some ho35
     obtain ⟨e45, ho35⟩ := chk_some ho35
     obtain ⟨t13, h46, ho35⟩ := bind_some ho35
     obtain ⟨e47, ho35⟩ := chk_some ho35
     obtain ⟨e48, ho35⟩ := chk_some ho35
     obtain ⟨t14, h49, ho35⟩ := bind_some ho35
     obtain ⟨e50, ho35⟩ := chk_some ho35
     refine run_drawf (fun w_ => Mem w [] w_ []) [(0, true), (1, true), (2, true), (3, true), (4, true), (5, true), (6, true), (7, true), (8, true), (9, true), (10, true), (14, true), (15, true), (16, true), (17, true), (18, true), (19, true), (20, true), (21, true), (11, false), (12, true), (13, true), (22, false), (23, true), (24, true)] mixed rfl rfl (by kernel_rfl) ?_
     replace HM := HM.grow (fr_drew _)
     have hS := HM.sufN 0 rfl
     refine dp rfl rfl rfl rfl (ex_move rfl rfl) hS (dp rfl rfl rfl rfl (ex_move rfl rfl) hS (dp rfl rfl rfl rfl (ex_sadd rfl rfl rfl (leB_le e43)) hS (dp rfl rfl rfl rfl (ex_move rfl rfl) hS (dp rfl rfl rfl rfl (ex_nilCheck rfl rfl) hS (dp rfl rfl rfl rfl (ex_fieldAddr (off' := f0 + 2) rfl rfl U28 rfl tsz25 rfl) hS (drwp_take rfl (guard_none rfl) rfl rfl (fun w_ hS_ => (ex_load1 rfl rfl U25 rfl ((hS_.at_ hc0) 2 _ rfl))) hS (dp rfl rfl rfl rfl (ex_move rfl rfl) hS ?_)))))))
     have hc51 : CellsAt _ (sb p0_0) (so p0_0 + (a11).toNat * 2) [(nI ((gt x0.fIns a11).fTx)), (nI ((gt x0.fIns a11).fAt))] := rd_plain hp0_0 e44
     refine dp rfl rfl rfl rfl (ex_indexAddr (d := kRef) rfl rfl rfl U25 tsz38 hp0_0 (idx_lo e44) (idx_hi e44)) hS (dp rfl rfl rfl rfl (ex_fieldAddr (off' := so p0_0 + (a11).toNat * 2) rfl rfl U38 rfl tsz2 rfl) hS (drwp_take rfl (guard_none rfl) rfl rfl (fun w_ hS_ => (ex_load1 rfl rfl U2 rfl ((hS_.at_ hc51) 0 _ rfl))) hS (dp rfl rfl rfl rfl (ex_move rfl rfl) hS (dp rfl rfl rfl rfl (ex_nilCheck rfl rfl) hS (dp rfl rfl rfl rfl (ex_fieldAddr (off' := f0 + 2) rfl rfl U28 rfl tsz25 rfl) hS (drwp_take rfl (guard_none rfl) rfl rfl (fun w_ hS_ => (ex_load1 rfl rfl U25 rfl ((hS_.at_ hc0) 2 _ rfl))) hS (dp rfl rfl rfl rfl (ex_move rfl rfl) hS ?_)))))))
     have hc52 : CellsAt _ (sb p0_0) (so p0_0 + (a11).toNat * 2) [(nI ((gt x0.fIns a11).fTx)), (nI ((gt x0.fIns a11).fAt))] := rd_plain hp0_0 e45
     refine dp rfl rfl rfl rfl (ex_indexAddr (d := kRef) rfl rfl rfl U25 tsz38 hp0_0 (idx_lo e45) (idx_hi e45)) hS (dp rfl rfl rfl rfl (ex_fieldAddr (off' := so p0_0 + (a11).toNat * 2 + 1) rfl rfl U38 rfl tsz2 rfl) hS (drwp_take rfl (guard_none rfl) rfl rfl (fun w_ hS_ => (ex_load1 rfl rfl U2 rfl ((hS_.at_ hc52) 1 _ rfl))) hS (drwp_one rfl (guard_none rfl) rfl rfl (does_callk rfl callok118 rfl (spec_l2Digits.calls (x0 := (gt x0.fIns a11).fTx) h46)) ?_)))
     rintro _ w53 ⟨rfl, hn⟩
     replace HM := HM.callN hn rfl
     have hS := HM.sufN 0 rfl
     refine ⟨hS, (dp rfl rfl rfl rfl (ex_sadd rfl rfl rfl (leB_le e47)) hS (dp rfl rfl rfl rfl (ex_sadd rfl rfl rfl (leB_le e48)) hS (drwp_one rfl (guard_none rfl) rfl rfl (does_callk rfl callok118 rfl (spec_l2Digits.calls (x0 := (gt x0.fIns a11).fAt) h49)) ?_)))⟩
     rintro _ w54 ⟨rfl, hn⟩
     replace HM := HM.callN hn rfl
     have hS := HM.sufN 0 rfl
     refine ⟨hS, (dp rfl rfl rfl rfl (ex_sadd rfl rfl rfl (leB_le e50)) hS (dp rfl rfl rfl rfl (ex_assign rfl rfl) hS (drwp_done (at_block (at_then (run_region rfl (oM rfl (oy rfl (ex_add rfl rfl rfl) (oM rfl ?_)))))))))⟩
     exact ops_nil (at_again k36 (Nat.lt_succ_self _) ⟨_, _, ho35, rfl, HM⟩ (Sub.of rfl))
   ·replace ho35 := cond_f hb38 ho35
    exact run_exit (at_then_exit (at_then_exit (at_block_exit (at_mid ⟨_, (sj ho35), rfl, HM⟩ (Sub.of rfl)))))
  ·rintro _ w55 ⟨a22, rfl, rfl, HM⟩
   obtain ⟨o56, ho57, H⟩ := bind_some H
   refine run_mid (fun ρ_ w_ => ∃ a23 : ByteArray, a23 = o56 ∧ ρ_ = [(3, .string a23)] ∧ Mem w [] w_ []) ?_ ?_
   ·clear H
    refine run_seq (run_region rfl (oM rfl (ops_nil (at_then (run_block ?_)))))
    refine run_loop (fun k_ ρ_ w_ => ∃ a15 : ByteArray, ∃ a16 : Int, spec_l3Text.l1 x0 k_ a15 a16 = some o56 ∧ ρ_ = [(0, pA b0 f0), (3, .string a15), (6, nI a16)] ∧ Mem w [] w_ []) k ⟨_, _, ho57, rfl, HM⟩ (Sub.of rfl) ?_
    clear HM ho57
    rintro k58 _ w59 ⟨a15, a16, ho57, rfl, HM⟩
    obtain _ | k58 := k58
    ·exact nomatch ((spec_l3Text.l1.eq_1 x0 a15 a16).symm.trans ho57)
    replace ho57 := (spec_l3Text.l1.eq_2 ..).symm.trans ho57
    refine run_seq (run_seq (run_region rfl (oM rfl (oM rfl (oy rfl (ex_nilCheck rfl rfl) (oy rfl (ex_fieldAddr (off' := f0 + 3) rfl rfl U28 rfl tsz26 rfl) (oy rfl (ex_load1 rfl rfl U26 rfl ((HM.at_ hc0) 3 _ rfl)) (oy rfl (ex_len (d := kOut) (xs := x0.fOuts) rfl rfl U26 hp0_1) (oy rfl (ex_lss rfl rfl rfl) ?_)))))))))
    refine ops_nil (at_then (run_cond (b := (decide (a16 < (x0.fOuts.length : Int)))) rfl (fun hb60 => ?_) (fun hb60 => ?_)))
    ·replace ho57 := cond_t hb60 ho57
     refine run_skip (at_then (run_seq (run_block ?_)))
     obtain ⟨e61, ho57⟩ := chk_some ho57
     obtain ⟨e62, ho57⟩ := chk_some ho57
     obtain ⟨e63, ho57⟩ := chk_some ho57
     obtain ⟨t17, h64, ho57⟩ := bind_some ho57
     obtain ⟨e65, ho57⟩ := chk_some ho57
     obtain ⟨e66, ho57⟩ := chk_some ho57
     obtain ⟨t18, h67, ho57⟩ := bind_some ho57
     obtain ⟨t19, h68, ho57⟩ := bind_some ho57
     obtain ⟨e69, ho57⟩ := chk_some ho57
     refine run_drawf (fun w_ => Mem w [] w_ []) [(0, true), (1, true), (2, true), (3, true), (4, true), (5, true), (6, true), (7, true), (8, true), (9, true), (13, true), (14, true), (15, true), (16, true), (17, true), (18, true), (19, true), (10, false), (11, true), (12, true), (20, false), (21, false), (22, true), (23, true)] mixed rfl rfl (by kernel_rfl) ?_
     replace HM := HM.grow (fr_drew _)
     have hS := HM.sufN 0 rfl
     refine dp rfl rfl rfl rfl (ex_move rfl rfl) hS (dp rfl rfl rfl rfl (ex_sadd rfl rfl rfl (leB_le e61)) hS (dp rfl rfl rfl rfl (ex_move rfl rfl) hS (dp rfl rfl rfl rfl (ex_nilCheck rfl rfl) hS (dp rfl rfl rfl rfl (ex_fieldAddr (off' := f0 + 3) rfl rfl U28 rfl tsz26 rfl) hS (drwp_take rfl (guard_none rfl) rfl rfl (fun w_ hS_ => (ex_load1 rfl rfl U26 rfl ((hS_.at_ hc0) 3 _ rfl))) hS (dp rfl rfl rfl rfl (ex_move rfl rfl) hS ?_))))))
     obtain ⟨kv70, hc71, hk72⟩ := rd_with1 hp0_1 e62
     refine dp rfl rfl rfl rfl (ex_indexAddr (d := kOut) rfl rfl rfl U26 tsz68 hp0_1 (idx_lo e62) (idx_hi e62)) hS (dp rfl rfl rfl rfl (ex_fieldAddr (off' := so p0_1 + (a16).toNat * 4) rfl rfl U68 rfl tsz2 rfl) hS (drwp_take rfl (guard_none rfl) rfl rfl (fun w_ hS_ => (ex_load1 rfl rfl U2 rfl ((hS_.at_ hc71) 0 _ rfl))) hS (dp rfl rfl rfl rfl (ex_move rfl rfl) hS (dp rfl rfl rfl rfl (ex_nilCheck rfl rfl) hS (dp rfl rfl rfl rfl (ex_fieldAddr (off' := f0 + 3) rfl rfl U28 rfl tsz26 rfl) hS (drwp_take rfl (guard_none rfl) rfl rfl (fun w_ hS_ => (ex_load1 rfl rfl U26 rfl ((hS_.at_ hc0) 3 _ rfl))) hS (dp rfl rfl rfl rfl (ex_move rfl rfl) hS ?_)))))))
     obtain ⟨kv73, hc74, hk75⟩ := rd_with1 hp0_1 e63
     refine dp rfl rfl rfl rfl (ex_indexAddr (d := kOut) rfl rfl rfl U26 tsz68 hp0_1 (idx_lo e63) (idx_hi e63)) hS (dp rfl rfl rfl rfl (ex_fieldAddr (off' := so p0_1 + (a16).toNat * 4 + 1) rfl rfl U68 rfl tsz66 rfl) hS (drwp_one rfl (guard_none rfl) rfl rfl (does_callk rfl callok118 rfl (spec_l2Digits.calls (x0 := (gt x0.fOuts a16).fValue) h64)) ?_))
     rintro _ w76 ⟨rfl, hn⟩
     replace HM := HM.callN hn rfl
     have hS := HM.sufN 0 rfl
     refine ⟨hS, (dp rfl rfl rfl rfl (ex_sadd rfl rfl rfl (leB_le e65)) hS (dp rfl rfl rfl rfl (ex_sadd rfl rfl rfl (leB_le e66)) hS (drwp_one rfl (guard_none rfl) rfl rfl (does_callk rfl callok120 rfl (spec_l2Text.calls (x0 := (gt x0.fOuts a16).fRule) (CellsAt.sub (HM.at_ hc74) 1 3 rfl) (HM.rd hk75) h67)) ?_)))⟩
     rintro _ w77 ⟨rfl, hn⟩
     replace HM := HM.callN hn rfl
     have hS := HM.sufN 0 rfl
     refine ⟨hS, (drwp_one rfl (guard_none rfl) rfl rfl (does_callk rfl callok119 rfl (spec_l3Swap.calls (x0 := t18) (x1 := 32) (x2 := 95) h68)) ?_)⟩
     rintro _ w78 ⟨rfl, hn⟩
     replace HM := HM.callN hn rfl
     have hS := HM.sufN 0 rfl
     refine ⟨hS, (dp rfl rfl rfl rfl (ex_sadd rfl rfl rfl (leB_le e69)) hS (dp rfl rfl rfl rfl (ex_assign rfl rfl) hS (drwp_done (at_block (at_then (run_region rfl (oM rfl (oy rfl (ex_add rfl rfl rfl) (oM rfl ?_)))))))))⟩
     exact ops_nil (at_again k58 (Nat.lt_succ_self _) ⟨_, _, ho57, rfl, HM⟩ (Sub.of rfl))
    ·replace ho57 := cond_f hb60 ho57
     exact run_exit (at_then_exit (at_then_exit (at_block_exit (at_mid ⟨_, (sj ho57), rfl, HM⟩ (Sub.of rfl)))))
   ·rintro _ w79 ⟨a23, rfl, rfl, HM⟩
    refine run_seq (run_region rfl (oM rfl (oM rfl (ops_nil (at_then (run_ret ?_))))))
    cases H
    exact at_ret1 rfl rfl ⟨_, rfl, rfl, HM⟩

def spec_TxText.f (k : Nat) (x0 : Tx) : Option TextResult := ((spec_l3Fault.f k x0).bind fun t10 => (bif (t10 != 0) then some (⟨t10, (⟨#[]⟩ : ByteArray)⟩ : TextResult) else ((spec_l3Text.f k x0).bind fun t11 => (bif (decide (300 < (t11.size : Int))) then some (⟨2, (⟨#[]⟩ : ByteArray)⟩ : TextResult) else some (⟨0, t11⟩ : TextResult)))))
theorem spec_TxText.calls {k : Nat} {x0 : Tx} {p0_0 : Value} {p0_1 : Value} {w : World} (hp0_0 : RdS kRef w p0_0 x0.fIns) (hp0_1 : RdS kOut w p0_1 x0.fOuts) {r : TextResult} (H : spec_TxText.f k x0 = some r) :
  Calls Tryz.prog 74 ([.agg #[(nI x0.fKind), (nI x0.fMember), p0_0, p0_1]] : List Value).toArray w (fun e w_ => ∃ v, e = .returned v ∧ v = (.agg #[nI r.fCode, .string r.fText]) ∧ Mem w [] w_ []) := by
 have HM := Mem.start w
 refine calls_run (N := 17) Tryz.func74 rfl rfl rfl rfl ?_
 unfold spec_TxText.f at H
 refine run_seq (run_region rfl (oz rfl (does_box (cs := [nI x0.fKind, nI x0.fMember, p0_0, p0_1]) rfl rfl rfl HM) ?_))
 rintro _ w12 ⟨b13, rfl, HM⟩
 refine oz rfl (does_alloc (cs := [nI 0, .string (⟨#[]⟩ : ByteArray)]) rfl tz114 rfl HM) ?_
 rintro _ w14 ⟨b15, rfl, HM⟩
 refine ops_nil (at_then (run_seq (run_seq ?_)))
 obtain ⟨t10, h16, H⟩ := bind_some H
 refine run_region rfl (oz rfl (does_callk rfl callok46 rfl (spec_l3Fault.calls (x0 := x0) (HM.box_at 1 rfl) (HM.rd hp0_0) (HM.rd hp0_1) h16)) ?_)
 rintro _ w17 ⟨rfl, hn⟩
 replace HM := HM.callN hn rfl
 refine oM rfl (ops_nil (at_then (run_seq (run_region rfl (oM rfl (oy rfl (ex_neq rfl rfl rfl) (ops_nil (at_then (run_cond (b := (t10 != 0)) rfl (fun hb18 => ?_) (fun hb18 => ?_))))))))))
 ·replace H := cond_t hb18 H
  refine run_seq (run_region rfl (oM rfl (oy rfl (ex_build (cells := #[(nI t10), (.string (⟨#[]⟩ : ByteArray))]) rfl rfl (by kernel_rfl)) ?_)))
  refine odS rfl rfl rfl (does_store (vs := [nI t10, .string (⟨#[]⟩ : ByteArray)]) (cs' := [nI t10, .string (⟨#[]⟩ : ByteArray)]) rfl rfl rfl rfl tsz114 (Ones.int (Ones.str Ones.nil)) rfl rfl HM) ?_
  rintro w19 HM
  refine ops_nil (at_then (run_ret (at_then_ret ?_)))
  replace HM := HM.frd 1 rfl
  have hcb0 := HM.box_at 0 rfl
  replace HM := HM.frd 0 rfl
  cases H
  exact at_retN rfl rfl U114 rfl tsz114 rfl hcb0 ⟨_, rfl, rfl, HM⟩
 ·replace H := cond_f hb18 H
  refine run_skip (at_then (run_seq ?_))
  obtain ⟨t11, h20, H⟩ := bind_some H
  refine run_region rfl (oz rfl (does_callk rfl callok110 rfl (spec_l3Text.calls (x0 := x0) (HM.box_at 1 rfl) (HM.rd hp0_0) (HM.rd hp0_1) h20)) ?_)
  rintro _ w21 ⟨rfl, hn⟩
  replace HM := HM.callN hn rfl
  refine oM rfl (ops_nil (at_then (run_seq (run_seq (run_region rfl (oM rfl (oy rfl (ex_strlen rfl rfl U9) (oy rfl (ex_gtr rfl rfl rfl) (ops_nil (at_then (run_cond (b := (decide (300 < (t11.size : Int)))) rfl (fun hb22 => ?_) (fun hb22 => ?_))))))))))))
  ·replace H := cond_t hb22 H
   refine run_seq (run_region rfl (oy rfl (ex_build (cells := #[(nI 2), (.string (⟨#[]⟩ : ByteArray))]) rfl rfl (by kernel_rfl)) ?_))
   refine odS rfl rfl rfl (does_store (vs := [nI 2, .string (⟨#[]⟩ : ByteArray)]) (cs' := [nI 2, .string (⟨#[]⟩ : ByteArray)]) rfl rfl rfl rfl tsz114 (Ones.int (Ones.str Ones.nil)) rfl rfl HM) ?_
   rintro w23 HM
   refine ops_nil (at_then (run_ret (at_then_ret ?_)))
   replace HM := HM.frd 1 rfl
   have hcb0 := HM.box_at 0 rfl
   replace HM := HM.frd 0 rfl
   cases H
   exact at_retN rfl rfl U114 rfl tsz114 rfl hcb0 ⟨_, rfl, rfl, HM⟩
  ·replace H := cond_f hb22 H
   refine run_skip (at_then (run_seq (run_region rfl (oM rfl (oy rfl (ex_build (cells := #[(nI 0), (.string t11)]) rfl rfl (by kernel_rfl)) ?_)))))
   refine odS rfl rfl rfl (does_store (vs := [nI 0, .string t11]) (cs' := [nI 0, .string t11]) rfl rfl rfl rfl tsz114 (Ones.int (Ones.str Ones.nil)) rfl rfl HM) ?_
   rintro w24 HM
   refine ops_nil (at_then (run_ret ?_))
   replace HM := HM.frd 1 rfl
   have hcb0 := HM.box_at 0 rfl
   replace HM := HM.frd 0 rfl
   cases H
   exact at_retN rfl rfl U114 rfl tsz114 rfl hcb0 ⟨_, rfl, rfl, HM⟩
end Go.Proofs.YtecgbhfgkkpmhacGreat.Zk
