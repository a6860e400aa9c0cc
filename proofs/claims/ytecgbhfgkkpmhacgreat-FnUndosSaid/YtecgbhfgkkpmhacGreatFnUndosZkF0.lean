/- What functions of the program compute, each as a plain function, and that they do. Conditions: as each theorem states them. -/
import Derived.Test.YtecgbhfgkkpmhacGreatFnUndosZkTy
namespace Go.Proofs.YtecgbhfgkkpmhacGreat.Zk
open Go Go.RowKit Go.IntWalk Go.Proofs
set_option linter.unusedVariables false
set_option linter.unusedSimpArgs false
set_option maxRecDepth 100000
set_option maxHeartbeats 4000000
def laws_lwBig.f (k : Nat) (x0 : List Int) : Option Bool := some (decide (1048576 < (x0.length : Int)))
theorem laws_lwBig.calls {k : Nat} {x0 : List Int} {p0 : Value} {w : World} (hp0 : RdS kU8 w p0 x0) {r : Bool} (H : laws_lwBig.f k x0 = some r) :
  Calls Tryz.prog 4 ([p0] : List Value).toArray w (fun e w_ => ∃ v, e = .returned v ∧ v = (.bool r) ∧ Mem w [] w_ []) := by
 have HM := Mem.start w
 refine calls_run (N := 6) Tryz.func4 rfl rfl rfl rfl ?_
 unfold laws_lwBig.f at H
 refine run_seq (run_region rfl (oM rfl (ops_nil (at_then (run_seq (run_region rfl (oM rfl (oy rfl (ex_len (d := kU8) (xs := x0) rfl rfl U22 hp0) (oy rfl (ex_gtr rfl rfl rfl) (oM rfl (ops_nil (at_then ?_))))))))))))
 refine run_ret ?_
 cases H
 exact at_ret1 rfl rfl ⟨_, rfl, rfl, HM⟩

def spec_l1Source.f (k : Nat) (x0 : List Int) : Option Int := some 0
theorem spec_l1Source.calls {k : Nat} {x0 : List Int} {p0 : Value} {w : World} (hp0 : RdS kU8 w p0 x0) {r : Int} (H : spec_l1Source.f k x0 = some r) :
  Calls Tryz.prog 13 ([p0] : List Value).toArray w (fun e w_ => ∃ v, e = .returned v ∧ ∃ ub : Nat, v = (pA ub 0) ∧ Mem w [] w_ [box ub 78 [p0, nI r]]) := by
 have HM := Mem.start w
 refine calls_run (N := 6) Tryz.func13 rfl rfl rfl rfl ?_
 unfold spec_l1Source.f at H
 refine run_seq (run_region rfl (oM rfl (ops_nil (at_then (run_seq (run_region rfl (oM rfl (oy rfl (ex_build1 (fun p0 => [(0, p0)]) (fun p0 => #[p0, nI 0]) rfl rfl (fun _ _ _ => by kernel_rfl) hp0.isSl) ?_))))))))
 refine oz rfl (does_box (cs := [p0, nI 0]) rfl rfl rfl HM) ?_
 rintro _ w22 ⟨b19, rfl, HM⟩
 refine oM rfl (ops_nil (at_then (run_ret ?_)))
 cases H
 exact at_ret1 rfl rfl ⟨_, rfl, _, rfl, HM⟩

def spec_l1Next.f (k : Nat) (x0 : l1Src) (x1 : Int) : Option (Int × Int) := (bif (decide (x1 < 1)) then some (0, wrap64 (x0.fAt + 1)) else (bif ((x0.fCode.length : Int) == 0) then (chk (x1 != 0) (some (Int.tmod (wrap64 ((wrap64 ((wrap64 (x0.fAt + 1)) - 1)) * 7)) x1, wrap64 (x0.fAt + 1)))) else (chk ((x0.fCode.length : Int) != 0) (chk (idxOk (Int.tmod (wrap64 ((wrap64 (x0.fAt + 1)) - 1)) (x0.fCode.length : Int)) x0.fCode.length) (chk ((x0.fCode.length : Int) != 0) (bif (decide (200 < x1)) then (chk ((x0.fCode.length : Int) != 0) (chk (idxOk (Int.tmod (wrap64 ((wrap64 ((wrap64 (x0.fAt + 1)) - 1)) + 1)) (x0.fCode.length : Int)) x0.fCode.length) (chk (x1 != 0) (some (Int.tmod (wrap64 ((wrap64 ((wrap64 ((wrap64 ((wrap64 (gt x0.fCode (Int.tmod (wrap64 ((wrap64 (x0.fAt + 1)) - 1)) (x0.fCode.length : Int)))) + (wrap64 ((IntKind.i64.wrap (Int.tdiv (wrap64 ((wrap64 (x0.fAt + 1)) - 1)) (x0.fCode.length : Int))) * 37)))) * 251)) + (wrap64 ((wrap64 (gt x0.fCode (Int.tmod (wrap64 ((wrap64 ((wrap64 (x0.fAt + 1)) - 1)) + 1)) (x0.fCode.length : Int)))) * 13)))) + (wrap64 ((wrap64 (x0.fAt + 1)) - 1)))) x1, wrap64 (x0.fAt + 1)))))) else (chk (x1 != 0) (some (Int.tmod (wrap64 ((wrap64 (gt x0.fCode (Int.tmod (wrap64 ((wrap64 (x0.fAt + 1)) - 1)) (x0.fCode.length : Int)))) + (wrap64 ((IntKind.i64.wrap (Int.tdiv (wrap64 ((wrap64 (x0.fAt + 1)) - 1)) (x0.fCode.length : Int))) * 37)))) x1, wrap64 (x0.fAt + 1))))))))))
theorem spec_l1Next.calls {k : Nat} {x0 : l1Src} {x1 : Int} {b0 : Nat} {p0_0 : Value} {w wo : World} {X : List Nat} (hwo : Olds wo w X) (hX : Hold w [box b0 78 [p0_0, nI x0.fAt]] X) (hXn : X.Nodup) (hXl : ∀ b ∈ X, b < w.heap.size) (hp0_0 : RdS kU8 wo p0_0 x0.fCode) {r : Int × Int} (H : spec_l1Next.f k x0 x1 = some r) :
  Calls Tryz.prog 16 ([pA b0 0, nI x1] : List Value).toArray w (fun e w_ => ∃ v, e = .returned v ∧ v = (nI r.1) ∧ Mem w X w_ [box b0 78 [p0_0, nI r.2]]) := by
 have HM := Mem.startX hX hXn hXl
 refine calls_run (N := 71) Tryz.func16 rfl rfl rfl rfl ?_
 unfold spec_l1Next.f at H
 refine run_seq (run_region rfl (oM rfl (ops_nil (at_then (run_seq (run_region rfl (oM rfl (oM rfl (oy rfl (ex_nilCheck rfl rfl) (oy rfl (ex_fieldAddr (off' := 1) rfl rfl U78 rfl tsz2 rfl) (oy rfl (ex_load1 rfl rfl U2 rfl ((HM.box_at 0 rfl) 1 _ rfl)) ?_)))))))))))
 refine oy rfl (ex_add rfl rfl rfl) (oy rfl (ex_nilCheck rfl rfl) (oy rfl (ex_fieldAddr (off' := 1) rfl rfl U78 rfl tsz2 rfl) (odS rfl rfl rfl (does_store (vs := [nI (wrap64 (x0.fAt + 1))]) (cs' := [p0_0, nI (wrap64 (x0.fAt + 1))]) rfl rfl rfl rfl tsz2 (Ones.int Ones.nil) rfl rfl HM) ?_)))
 rintro w63 HM
 refine ops_nil (at_then (run_seq (run_seq (run_region rfl (oM rfl (oy rfl (ex_lss rfl rfl rfl) (ops_nil (at_then (run_cond (b := (decide (x1 < 1))) rfl (fun hb65 => ?_) (fun hb65 => ?_))))))))))
 ·replace H := cond_t hb65 H
  refine run_seq (run_region rfl (oM rfl (ops_nil (at_then (run_ret (at_then_ret ?_))))))
  cases H
  exact at_ret1 rfl rfl ⟨_, rfl, rfl, HM⟩
 ·replace H := cond_f hb65 H
  refine run_skip (at_then (run_seq (run_region rfl (oM rfl (oy rfl (ex_nilCheck rfl rfl) (oy rfl (ex_fieldAddr (off' := 1) rfl rfl U78 rfl tsz2 rfl) (oy rfl (ex_load1 rfl rfl U2 rfl ((HM.box_at 0 rfl) 1 _ rfl)) (oy rfl (ex_sub rfl rfl rfl) (oM rfl ?_)))))))))
  refine ops_nil (at_then (run_seq (run_region rfl (oM rfl (oy rfl (ex_nilCheck rfl rfl) (oy rfl (ex_fieldAddr (off' := 0) rfl rfl U78 rfl tsz22 rfl) (oy rfl (ex_load1 rfl rfl U22 rfl ((HM.box_at 0 rfl) 0 _ rfl)) (oy rfl (ex_len (d := kU8) (xs := x0.fCode) rfl rfl U22 hp0_0) (oM rfl (ops_nil (at_then (run_seq (run_seq ?_)))))))))))))
  refine run_region rfl (oM rfl (oy rfl (ex_eql rfl rfl rfl) (ops_nil (at_then (run_cond (b := ((x0.fCode.length : Int) == 0)) rfl (fun hb68 => ?_) (fun hb68 => ?_))))))
  ·replace H := cond_t hb68 H
   refine run_seq ?_
   obtain ⟨e69, H⟩ := chk_some H
   refine run_region rfl (oM rfl (oy rfl (ex_mul rfl rfl rfl) (oM rfl (oy rfl (ex_remk rfl rfl rfl e69) (oM rfl (ops_nil (at_then (run_ret (at_then_ret ?_)))))))))
   cases H
   exact at_ret1 rfl rfl ⟨_, rfl, rfl, HM⟩
  ·replace H := cond_f hb68 H
   refine run_skip (at_then (run_seq ?_))
   obtain ⟨e70, H⟩ := chk_some H
   obtain ⟨e71, H⟩ := chk_some H
   obtain ⟨e73, H⟩ := chk_some H
   refine run_drawf (fun w_ => Mem w X w_ [box b0 78 [p0_0, nI (wrap64 (x0.fAt + 1))]]) [(0, true), (1, true), (2, true), (3, true), (4, true), (5, true), (6, true), (7, true), (8, true), (9, true), (10, true), (11, true), (12, true), (13, true), (14, true), (15, true)] mixed rfl rfl (by kernel_rfl) ?_
   replace HM := HM.grow (fr_drew _)
   have hS := HM.sufN 0 rfl
   refine dp rfl rfl rfl rfl (ex_move rfl rfl) hS (dp rfl rfl rfl rfl (ex_nilCheck rfl rfl) hS (dp rfl rfl rfl rfl (ex_fieldAddr (off' := 0) rfl rfl U78 rfl tsz22 rfl) hS (drwp_take rfl (guard_none rfl) rfl rfl (fun w_ hS_ => (ex_load1 rfl rfl U22 rfl ((hS_.box_at 0 rfl) 0 _ rfl))) hS (dp rfl rfl rfl rfl (ex_move rfl rfl) hS (dp rfl rfl rfl rfl (ex_move rfl rfl) hS (dp rfl rfl rfl rfl (ex_remk rfl rfl rfl e70) hS ?_))))))
   have hc72 : CellsAt _ (sb p0_0) (so p0_0 + (Int.tmod (wrap64 ((wrap64 (x0.fAt + 1)) - 1)) (x0.fCode.length : Int)).toNat * 1) [(.int .u8 (gt x0.fCode (Int.tmod (wrap64 ((wrap64 (x0.fAt + 1)) - 1)) (x0.fCode.length : Int))))] := rd_plain hp0_0 e71
   refine dp rfl rfl rfl rfl (ex_indexAddr (d := kU8) rfl rfl rfl U22 tsz5 hp0_0 (idx_lo e71) (idx_hi e71)) hS (drwp_take rfl (guard_none rfl) rfl rfl (fun w_ hS_ => (ex_load1 rfl rfl U5 rfl ((hS_.ato hwo hc72) 0 _ rfl))) hS (dp rfl rfl rfl rfl (ex_conv64 rfl rfl (by rw [U5]; rfl) U2) hS ?_))
   refine dp rfl rfl rfl rfl (ex_move rfl rfl) hS (dp rfl rfl rfl rfl (ex_move rfl rfl) hS (dp rfl rfl rfl rfl (ex_quok rfl rfl rfl e73) hS (dp rfl rfl rfl rfl (ex_mul rfl rfl rfl) hS (dp rfl rfl rfl rfl (ex_add rfl rfl rfl) hS (dp rfl rfl rfl rfl (ex_assign rfl rfl) hS (drwp_done (at_then (run_seq (run_seq ?_)))))))))
   refine run_region rfl (oM rfl (oy rfl (ex_gtr rfl rfl rfl) (ops_nil (at_then (run_cond (b := (decide (200 < x1))) rfl (fun hb74 => ?_) (fun hb74 => ?_))))))
   ·replace H := cond_t hb74 H
    obtain ⟨e75, H⟩ := chk_some H
    obtain ⟨e76, H⟩ := chk_some H
    refine run_drawf (fun w_ => Mem w X w_ [box b0 78 [p0_0, nI (wrap64 (x0.fAt + 1))]]) [(0, true), (1, true), (2, true), (3, true), (4, true), (5, true), (6, true), (7, true), (8, true), (9, true), (10, true), (11, true), (12, true), (13, true), (14, true), (15, true), (16, true), (17, true)] mixed rfl rfl (by kernel_rfl) ?_
    replace HM := HM.grow (fr_drew _)
    have hS := HM.sufN 0 rfl
    refine dp rfl rfl rfl rfl (ex_move rfl rfl) hS (dp rfl rfl rfl rfl (ex_mul rfl rfl rfl) hS (dp rfl rfl rfl rfl (ex_move rfl rfl) hS (dp rfl rfl rfl rfl (ex_nilCheck rfl rfl) hS (dp rfl rfl rfl rfl (ex_fieldAddr (off' := 0) rfl rfl U78 rfl tsz22 rfl) hS (drwp_take rfl (guard_none rfl) rfl rfl (fun w_ hS_ => (ex_load1 rfl rfl U22 rfl ((hS_.box_at 0 rfl) 0 _ rfl))) hS (dp rfl rfl rfl rfl (ex_move rfl rfl) hS (dp rfl rfl rfl rfl (ex_add rfl rfl rfl) hS (dp rfl rfl rfl rfl (ex_move rfl rfl) hS (dp rfl rfl rfl rfl (ex_remk rfl rfl rfl e75) hS ?_)))))))))
    have hc77 : CellsAt _ (sb p0_0) (so p0_0 + (Int.tmod (wrap64 ((wrap64 ((wrap64 (x0.fAt + 1)) - 1)) + 1)) (x0.fCode.length : Int)).toNat * 1) [(.int .u8 (gt x0.fCode (Int.tmod (wrap64 ((wrap64 ((wrap64 (x0.fAt + 1)) - 1)) + 1)) (x0.fCode.length : Int))))] := rd_plain hp0_0 e76
    refine dp rfl rfl rfl rfl (ex_indexAddr (d := kU8) rfl rfl rfl U22 tsz5 hp0_0 (idx_lo e76) (idx_hi e76)) hS (drwp_take rfl (guard_none rfl) rfl rfl (fun w_ hS_ => (ex_load1 rfl rfl U5 rfl ((hS_.ato hwo hc77) 0 _ rfl))) hS (dp rfl rfl rfl rfl (ex_conv64 rfl rfl (by rw [U5]; rfl) U2) hS ?_))
    refine dp rfl rfl rfl rfl (ex_mul rfl rfl rfl) hS (dp rfl rfl rfl rfl (ex_add rfl rfl rfl) hS (dp rfl rfl rfl rfl (ex_move rfl rfl) hS (dp rfl rfl rfl rfl (ex_add rfl rfl rfl) hS (dp rfl rfl rfl rfl (ex_assign rfl rfl) hS (drwp_done (at_then (run_seq ?_)))))))
    obtain ⟨e78, H⟩ := chk_some H
    refine run_region rfl (oM rfl (oM rfl (oy rfl (ex_remk rfl rfl rfl e78) (oM rfl (ops_nil (at_then (run_ret ?_)))))))
    cases H
    exact at_ret1 rfl rfl ⟨_, rfl, rfl, HM⟩
   ·replace H := cond_f hb74 H
    refine run_skip (at_then (run_seq ?_))
    obtain ⟨e79, H⟩ := chk_some H
    refine run_region rfl (oM rfl (oM rfl (oy rfl (ex_remk rfl rfl rfl e79) (oM rfl (ops_nil (at_then (run_ret ?_)))))))
    cases H
    exact at_ret1 rfl rfl ⟨_, rfl, rfl, HM⟩

def spec_l1Pick.f (k : Nat) (x0 : l1Src) (x1 : List Int) : Option (Int × Int) := ((spec_l1Next.f k x0 (x1.length : Int)).bind fun t10 => (chk (idxOk t10.1 x1.length) (some ((gt x1 t10.1), t10.2))))
theorem spec_l1Pick.calls {k : Nat} {x0 : l1Src} {x1 : List Int} {b0 : Nat} {p0_0 : Value} {p1 : Value} {w wo : World} {X : List Nat} (hwo : Olds wo w X) (hX : Hold w [box b0 78 [p0_0, nI x0.fAt]] X) (hXn : X.Nodup) (hXl : ∀ b ∈ X, b < w.heap.size) (hp0_0 : RdS kU8 wo p0_0 x0.fCode) (hp1 : RdS kInt wo p1 x1) {r : Int × Int} (H : spec_l1Pick.f k x0 x1 = some r) :
  Calls Tryz.prog 15 ([pA b0 0, p1] : List Value).toArray w (fun e w_ => ∃ v, e = .returned v ∧ v = (nI r.1) ∧ Mem w X w_ [box b0 78 [p0_0, nI r.2]]) := by
 have HM := Mem.startX hX hXn hXl
 refine calls_run (N := 12) Tryz.func15 rfl rfl rfl rfl ?_
 unfold spec_l1Pick.f at H
 refine run_seq (run_region rfl (oM rfl (ops_nil (at_then (run_seq ?_)))))
 obtain ⟨t10, h11, H⟩ := bind_some H
 obtain ⟨e12, H⟩ := chk_some H
 refine run_region rfl (oM rfl (oM rfl (oM rfl (oy rfl (ex_len (d := kInt) (xs := x1) rfl rfl U58 hp1) ?_))))
 obtain ⟨F13, hF14, hFn15, hFl16, HMh17, hcl18⟩ := HM.hideN 1 rfl
 refine oz rfl (does_callk rfl callok16 rfl (spec_l1Next.calls (x0 := x0) (x1 := (x1.length : Int)) (hide_olds _ _) hF14 hFn15 hFl16 (HMh17.rdo hwo hp0_0) h11)) ?_
 rintro _ w19 ⟨rfl, hn⟩
 replace HM := hcl18 _ _ _ rfl hn
 have hc20 : CellsAt _ (sb p1) (so p1 + (t10.1).toNat * 1) [(nI (gt x1 t10.1))] := rd_plain hp1 e12
 refine oy rfl (ex_indexAddr (d := kInt) rfl rfl rfl U58 tsz2 hp1 (idx_lo e12) (idx_hi e12)) (oy rfl (ex_load1 rfl rfl U2 rfl ((HM.ato hwo hc20) 0 _ rfl)) (oM rfl (ops_nil (at_then (run_ret ?_)))))
 cases H
 exact at_ret1 rfl rfl ⟨_, rfl, rfl, HM⟩

def spec_l2Draw.l0 (x0 : l1Src) : Nat → Int → (List Int) → Int → Option (Int × (List Int))
 | 0, _, _, _ => none
 | k + 1, a10, a11, a12 => (bif (decide (0 < a12)) then (chk (idxOk (wrap64 ((a11.length : Int) - 1)) a11.length) ((spec_l1Next.f k (⟨x0.fCode, a10⟩ : l1Src) 2).bind fun t13 => (chk (leB ((a11.length + ([wrap64 ((wrap64 ((gt a11 (wrap64 ((a11.length : Int) - 1))) + 1)) + t13.1)] : List Int).length) * 8) 140737488355328) (spec_l2Draw.l0 x0 k t13.2 (a11 ++ ([wrap64 ((wrap64 ((gt a11 (wrap64 ((a11.length : Int) - 1))) + 1)) + t13.1)] : List Int)) (wrap64 (a12 - 1)))))) else some (a10, a11))
def spec_l2Draw.f (k : Nat) (x0 : l1Src) : Option (Rule × Int) := ((spec_l1Next.f k x0 3).bind fun t14 => (((spec_l1Next.f k (⟨x0.fCode, t14.2⟩ : l1Src) 3).bind fun t15 => spec_l2Draw.l0 x0 k t15.2 ([wrap64 (1 + t14.1)] : List Int) t15.1).bind (cur2 (fun a16 a17 => ((spec_l1Next.f k (⟨x0.fCode, a16⟩ : l1Src) (a17.length : Int)).bind fun t18 => ((spec_l1Next.f k (⟨x0.fCode, t18.2⟩ : l1Src) 9).bind fun t19 => ((spec_l1Pick.f k (⟨x0.fCode, t19.2⟩ : l1Src) ([0, 0, 0, t19.1] : List Int)).bind fun t20 => some ((⟨a17, wrap64 (1 + t18.1), t20.1⟩ : Rule), t20.2))))))))
theorem spec_l2Draw.calls {k : Nat} {x0 : l1Src} {b0 : Nat} {p0_0 : Value} {w wo : World} {X : List Nat} (hwo : Olds wo w X) (hX : Hold w [box b0 78 [p0_0, nI x0.fAt]] X) (hXn : X.Nodup) (hXl : ∀ b ∈ X, b < w.heap.size) (hp0_0 : RdS kU8 wo p0_0 x0.fCode) {r : Rule × Int} (H : spec_l2Draw.f k x0 = some r) :
  Calls Tryz.prog 106 ([pA b0 0] : List Value).toArray w (fun e w_ => ∃ v, e = .returned v ∧ ∃ u0 : Value, v = (.agg #[u0, nI r.1.fNeed, nI r.1.fAfter]) ∧ Mem w X w_ [own kInt 2 u0 r.1.fKeys, box b0 78 [p0_0, nI r.2]]) := by
 have HM := Mem.startX hX hXn hXl
 refine calls_run (N := 47) Tryz.func106 rfl rfl rfl rfl ?_
 unfold spec_l2Draw.f at H
 refine run_seq (run_region rfl (oz rfl (does_alloc (cs := [.slice none 0 0, nI 0, nI 0]) rfl tz66 rfl HM) ?_))
 rintro _ w21 ⟨b22, rfl, HM⟩
 refine ops_nil (at_then (run_seq ?_))
 obtain ⟨t14, h23, H⟩ := bind_some H
 refine run_region rfl (oM rfl ?_)
 replace HM := HM.fr1 1 rfl
 obtain ⟨F24, hF25, hFn26, hFl27, HMh28, hcl29⟩ := HM.hideN 1 rfl
 refine oz rfl (does_callk rfl callok16 rfl (spec_l1Next.calls (x0 := x0) (x1 := 3) (hide_olds _ _) hF25 hFn26 hFl27 (HMh28.rdo hwo hp0_0) h23)) ?_
 rintro _ w30 ⟨rfl, hn⟩
 replace HM := hcl29 _ _ _ rfl hn
 refine oy rfl (ex_add rfl rfl rfl) (oz rfl (does_lit (e := 2) (cs := [nI (wrap64 (1 + t14.1))]) (xs := ([wrap64 (1 + t14.1)] : List Int)) kInt rfl rfl (fun _ => by kernel_rfl) rfl rfl (fun _ _ h => by have h' : _ = [] := h; subst h'; exact (Elems.cons (d := kInt) (x := wrap64 (1 + t14.1)) (f := []) ⟨rfl, rfl⟩ .nil)) HM.emp) ?_)
 rintro v31 w32 HM
 refine oy rfl (ex_build1 (fun v31 => [(0, v31)]) (fun v31 => #[v31, nI 0, nI 0]) rfl rfl (fun _ _ _ => by kernel_rfl) (HM.own_rd 0 rfl).isSl) ?_
 refine oz rfl (does_alloc (cs := [.slice none 0 0, nI 0, nI 0]) rfl tz66 rfl HM) ?_
 rintro _ w33 ⟨b34, rfl, HM⟩
 refine odS rfl rfl rfl (does_store (vs := [v31, nI 0, nI 0]) (cs' := [v31, nI 0, nI 0]) rfl rfl rfl rfl tsz66 (Ones.rd (HM.own_rd 1 rfl) (Ones.int (Ones.int Ones.nil))) rfl rfl HM) ?_
 rintro w35 HM
 refine ops_nil (at_then ?_)
 obtain ⟨o36, ho37, H⟩ := bind_some H
 refine run_mid (fun ρ_ w_ => ∃ a16 : Int, ∃ v38 : Value, ∃ a17 : List Int, (a16, a17) = o36 ∧ ρ_ = [(0, pA b0 0), (2, pA b22 0), (3, pA b34 0)] ∧ Mem w X w_ [box b0 78 [p0_0, nI a16], box b22 66 [.slice none 0 0, nI 0, nI 0], box b34 66 [v38, nI 0, nI 0], own kInt 2 v38 a17]) ?_ ?_
 ·clear H
  refine run_seq ?_
  obtain ⟨t15, h39, ho37⟩ := bind_some ho37
  refine run_region rfl (oM rfl ?_)
  replace HM := HM.fr1 2 rfl
  obtain ⟨F40, hF41, hFn42, hFl43, HMh44, hcl45⟩ := HM.hideN 1 rfl
  refine oz rfl (does_callk rfl callok16 rfl (spec_l1Next.calls (x0 := (⟨x0.fCode, t14.2⟩ : l1Src)) (x1 := 3) (hide_olds _ _) hF41 hFn42 hFl43 (HMh44.rdo hwo hp0_0) h39)) ?_
  rintro _ w46 ⟨rfl, hn⟩
  replace HM := hcl45 _ _ _ rfl hn
  refine oM rfl (ops_nil (at_then (run_block ?_)))
  replace HM := ((HM.fr1 2 rfl).fr1 2 rfl).fr1 3 rfl
  replace HM := HM.fr1 3 rfl
  refine run_loop (fun k_ ρ_ w_ => ∃ a10 : Int, ∃ v47 : Value, ∃ a11 : List Int, ∃ a12 : Int, spec_l2Draw.l0 x0 k_ a10 a11 a12 = some o36 ∧ ρ_ = [(0, pA b0 0), (2, pA b22 0), (3, pA b34 0), (4, nI a12)] ∧ Mem w X w_ [box b0 78 [p0_0, nI a10], box b22 66 [.slice none 0 0, nI 0, nI 0], box b34 66 [v47, nI 0, nI 0], own kInt 2 v47 a11]) k ⟨_, _, _, _, ho37, rfl, HM⟩ (Sub.of rfl) ?_
  clear HM ho37
  rintro k48 _ w49 ⟨a10, v47, a11, a12, ho37, rfl, HM⟩
  obtain _ | k48 := k48
  ·exact nomatch ((spec_l2Draw.l0.eq_1 x0 a10 a11 a12).symm.trans ho37)
  replace ho37 := (spec_l2Draw.l0.eq_2 ..).symm.trans ho37
  refine run_seq (run_seq (run_region rfl (oM rfl (oy rfl (ex_gtr rfl rfl rfl) (ops_nil (at_then (run_cond (b := (decide (0 < a12))) rfl (fun hb50 => ?_) (fun hb50 => ?_))))))))
  ·replace ho37 := cond_t hb50 ho37
   refine run_skip (at_then (run_seq (run_block ?_)))
   obtain ⟨e51, ho37⟩ := chk_some ho37
   obtain ⟨t13, h52, ho37⟩ := bind_some ho37
   obtain ⟨e53, ho37⟩ := chk_some ho37
   refine run_meet (fun ρ_ w_ => ∃ v54 : Value, ρ_ = [(0, pA b0 0), (2, pA b22 0), (3, pA b34 0), (4, nI a12)] ∧ Mem w X w_ [box b0 78 [p0_0, nI t13.2], box b22 66 [.slice none 0 0, nI 0, nI 0], box b34 66 [v54, nI 0, nI 0], own kInt 2 v54 (a11 ++ ([wrap64 ((wrap64 ((gt a11 (wrap64 ((a11.length : Int) - 1))) + 1)) + t13.1)] : List Int))]) ?_ ?_
   ·replace HM := ((HM.fr1 3 rfl).fr1 3 rfl).fr1 2 rfl
    refine run_draw (fun w_ => Mem w X w_ [box b22 66 [.slice none 0 0, nI 0, nI 0]]) mixed rfl (l := #[false, false, false, false, false, false, false, false, false, false, false, false, false, false, false, false, false, false]) rfl ?_
    replace HM := HM.grow (fr_drew _)
    have hS := HM.sufN 3 rfl
    refine drw_cut1 (l' := (bs 18 32767)) (f' := 3) (fun (v55 : Value) => [(0, pA b0 0), (2, pA b22 0), (3, pA b34 0), (4, nI a12), (17, v47), (30, v55)]) (fun (v55 : Value) => fun w_ => Mem w X w_ [own kInt 2 v55 ([wrap64 ((wrap64 ((gt a11 (wrap64 ((a11.length : Int) - 1))) + 1)) + t13.1)] : List Int), box b0 78 [p0_0, nI t13.2], box b34 66 [v47, nI 0, nI 0], own kInt 2 v47 a11, box b22 66 [.slice none 0 0, nI 0, nI 0]]) ?_ (fun K56 => ?_)
    ·rintro v55 w57 HM
     have hS := HM.sufN 4 rfl
     replace HM := HM.fr1 3 rfl
     refine drw_any [15] (by kernel_rfl) rfl (.cons ?_ .nil)
     refine br_does (l' := (bs 18 65535)) rfl (guard_none rfl) rfl rfl (by kernel_rfl) (does_appendR kInt flat_plain rfl rfl rfl U58 tsz2 rfl tby2 tz2 rfl rfl (leB_le e53) (HM.own_rd 1 rfl) HM) ?_
     rintro v54 w58 HM
     have hS := HM.sufN 4 rfl
     refine ⟨hS, (dt 16 (bs 18 131071) rfl rfl rfl rfl (by kernel_rfl) (ex_fieldAddr (off' := 0) rfl rfl U66 rfl tsz58 rfl) hS ?_)⟩
     replace HM := HM.fr1 3 rfl
     refine drw_any [17] (by kernel_rfl) rfl (.cons ?_ .nil)
     refine br_doesS (l' := (bs 18 262143)) rfl (guard_none rfl) rfl (by kernel_rfl) (does_store (vs := [v54]) (cs' := [v54, nI 0, nI 0]) rfl rfl rfl (rd_cells (HM.own_rd 1 rfl)) tsz58 (Ones.rd (HM.own_rd 1 rfl) Ones.nil) rfl rfl HM) ?_
     rintro w59 HM
     have hS := HM.sufN 4 rfl
     refine ⟨hS, (drw_done (by kernel_rfl) ?_)⟩
     replace HM := ((HM.frd 2 rfl).fr1 1 rfl).fr1 1 rfl
     replace HM := (HM.fr1 3 rfl).fr1 3 rfl
     exact at_meet _ ⟨_, rfl, HM⟩ (Sub.of rfl)
    refine drw_cut0 (l' := (bs 18 16383)) (f' := 4) ([(0, pA b0 0), (2, pA b22 0), (3, pA b34 0), (4, nI a12), (17, v47), (29, nI (wrap64 ((wrap64 ((gt a11 (wrap64 ((a11.length : Int) - 1))) + 1)) + t13.1)))]) (fun w_ => Mem w X w_ [box b0 78 [p0_0, nI t13.2], box b34 66 [v47, nI 0, nI 0], own kInt 2 v47 a11, box b22 66 [.slice none 0 0, nI 0, nI 0]]) ?_ (fun K60 => ?_)
    ·rintro w61 HM
     have hS := HM.sufN 3 rfl
     refine drw_any [14] (by kernel_rfl) rfl (.cons ?_ .nil)
     refine br_does (l' := (bs 18 32767)) rfl (guard_none rfl) rfl rfl (by kernel_rfl) (does_lit (e := 2) (cs := [nI (wrap64 ((wrap64 ((gt a11 (wrap64 ((a11.length : Int) - 1))) + 1)) + t13.1))]) (xs := ([wrap64 ((wrap64 ((gt a11 (wrap64 ((a11.length : Int) - 1))) + 1)) + t13.1)] : List Int)) kInt rfl rfl (fun _ => by kernel_rfl) rfl rfl (fun _ _ h => by have h' : _ = [] := h; subst h'; exact (Elems.cons (d := kInt) (x := wrap64 ((wrap64 ((gt a11 (wrap64 ((a11.length : Int) - 1))) + 1)) + t13.1)) (f := []) ⟨rfl, rfl⟩ .nil)) HM.emp) ?_
     rintro v55 w62 HM
     have hS := HM.sufN 4 rfl
     exact ⟨hS, (drw_sub (K56 v55 _ HM) (Sub.of rfl))⟩
    refine drw_cut0 (l' := (bs 18 8191)) (f' := 5) ([(0, pA b0 0), (2, pA b22 0), (3, pA b34 0), (4, nI a12), (17, v47), (26, nI (wrap64 ((gt a11 (wrap64 ((a11.length : Int) - 1))) + 1))), (28, nI t13.1)]) (fun w_ => Mem w X w_ [box b0 78 [p0_0, nI t13.2], box b34 66 [v47, nI 0, nI 0], own kInt 2 v47 a11, box b22 66 [.slice none 0 0, nI 0, nI 0]]) ?_ (fun K63 => ?_)
    ·rintro w64 HM
     have hS := HM.sufN 3 rfl
     refine dt 13 (bs 18 16383) rfl rfl rfl rfl (by kernel_rfl) (ex_add rfl rfl rfl) hS ?_
     exact drw_sub (K60 _ HM) (Sub.of rfl)
    refine drw_cut0 (l' := (bs 18 4095)) (f' := 6) ([(0, pA b0 0), (2, pA b22 0), (3, pA b34 0), (4, nI a12), (27, pA b0 0), (17, v47), (26, nI (wrap64 ((gt a11 (wrap64 ((a11.length : Int) - 1))) + 1)))]) (fun w_ => Mem w X w_ [box b0 78 [p0_0, nI a10], box b34 66 [v47, nI 0, nI 0], own kInt 2 v47 a11, box b22 66 [.slice none 0 0, nI 0, nI 0]]) ?_ (fun K65 => ?_)
    ·rintro w66 HM
     have hS := HM.sufN 3 rfl
     obtain ⟨F67, hF68, hFn69, hFl70, HMh71, hcl72⟩ := HM.hideN 1 rfl
     refine drw_any [12] (by kernel_rfl) rfl (.cons ?_ .nil)
     refine br_does (l' := (bs 18 8191)) rfl (guard_none rfl) rfl rfl (by kernel_rfl) (does_callk rfl callok16 rfl (spec_l1Next.calls (x0 := (⟨x0.fCode, a10⟩ : l1Src)) (x1 := 2) (hide_olds _ _) hF68 hFn69 hFl70 (HMh71.rdo hwo hp0_0) h52)) ?_
     rintro _ w73 ⟨rfl, hn⟩
     replace HM := hcl72 _ _ _ rfl hn
     have hS := HM.sufN 3 rfl
     exact ⟨hS, (drw_sub (K63 _ HM) (Sub.of rfl))⟩
    refine drw_cut0 (l' := (bs 18 8189)) (f' := 6) ([(0, pA b0 0), (2, pA b22 0), (3, pA b34 0), (4, nI a12), (16, pA b34 0), (26, nI (wrap64 ((gt a11 (wrap64 ((a11.length : Int) - 1))) + 1))), (28, nI t13.1)]) (fun w_ => Mem w X w_ [box b0 78 [p0_0, nI t13.2], box b34 66 [v47, nI 0, nI 0], own kInt 2 v47 a11, box b22 66 [.slice none 0 0, nI 0, nI 0]]) ?_ (fun K74 => ?_)
    ·rintro w75 HM
     have hS := HM.sufN 3 rfl
     refine dt 13 (bs 18 16381) rfl rfl rfl rfl (by kernel_rfl) (ex_add rfl rfl rfl) hS ?_
     refine drw_any [1, 14] (by kernel_rfl) rfl (.cons ?_ (.cons ?_ .nil))
     ·refine br_does (l' := (bs 18 16383)) rfl (guard_none rfl) rfl rfl (by kernel_rfl) (does_ex' (ex_load1 rfl rfl U58 rfl ((HM.box_at 1 rfl) 0 _ rfl))) ?_
      rintro _ _ ⟨rfl, rfl⟩
      exact ⟨hS, (drw_sub (K60 _ HM) (Sub.of rfl))⟩
     ·refine br_does (l' := (bs 18 32765)) rfl (guard_none rfl) rfl rfl (by kernel_rfl) (does_lit (e := 2) (cs := [nI (wrap64 ((wrap64 ((gt a11 (wrap64 ((a11.length : Int) - 1))) + 1)) + t13.1))]) (xs := ([wrap64 ((wrap64 ((gt a11 (wrap64 ((a11.length : Int) - 1))) + 1)) + t13.1)] : List Int)) kInt rfl rfl (fun _ => by kernel_rfl) rfl rfl (fun _ _ h => by have h' : _ = [] := h; subst h'; exact (Elems.cons (d := kInt) (x := wrap64 ((wrap64 ((gt a11 (wrap64 ((a11.length : Int) - 1))) + 1)) + t13.1)) (f := []) ⟨rfl, rfl⟩ .nil)) HM.emp) ?_
      rintro v55 w76 HM
      have hS := HM.sufN 4 rfl
      refine ⟨hS, (drw_any [1] (by kernel_rfl) rfl (.cons ?_ .nil))⟩
      refine br_does (l' := (bs 18 32767)) rfl (guard_none rfl) rfl rfl (by kernel_rfl) (does_ex' (ex_load1 rfl rfl U58 rfl ((HM.box_at 2 rfl) 0 _ rfl))) ?_
      rintro _ _ ⟨rfl, rfl⟩
      exact ⟨hS, (drw_sub (K56 v55 _ HM) (Sub.of rfl))⟩
    refine drw_cut0 (l' := (bs 18 6655)) (f' := 7) ([(0, pA b0 0), (2, pA b22 0), (3, pA b34 0), (4, nI a12), (17, v47), (24, .pointer (some ⟨sb v47, so v47 + (wrap64 ((a11.length : Int) - 1)).toNat * 1, none⟩)), (28, nI t13.1)]) (fun w_ => Mem w X w_ [box b0 78 [p0_0, nI t13.2], box b34 66 [v47, nI 0, nI 0], own kInt 2 v47 a11, box b22 66 [.slice none 0 0, nI 0, nI 0]]) ?_ (fun K77 => ?_)
    ·rintro w78 HM
     have hS := HM.sufN 3 rfl
     refine drw_any [9] (by kernel_rfl) rfl (.cons ?_ .nil)
     refine br_does (l' := (bs 18 7167)) rfl (guard_none rfl) rfl rfl (by kernel_rfl) (does_ex' (ex_load1 rfl rfl U2 rfl ((rd_plain (HM.own_rd 2 rfl) e51) 0 _ rfl))) ?_
     rintro _ _ ⟨rfl, rfl⟩
     refine ⟨hS, (dt 10 (bs 18 8191) rfl rfl rfl rfl (by kernel_rfl) (ex_add rfl rfl rfl) hS ?_)⟩
     exact drw_sub (K63 _ HM) (Sub.of rfl)
    refine drw_cut0 (l' := (bs 18 2559)) (f' := 8) ([(0, pA b0 0), (2, pA b22 0), (3, pA b34 0), (4, nI a12), (27, pA b0 0), (17, v47), (24, .pointer (some ⟨sb v47, so v47 + (wrap64 ((a11.length : Int) - 1)).toNat * 1, none⟩))]) (fun w_ => Mem w X w_ [box b0 78 [p0_0, nI a10], box b34 66 [v47, nI 0, nI 0], own kInt 2 v47 a11, box b22 66 [.slice none 0 0, nI 0, nI 0]]) ?_ (fun K79 => ?_)
    ·rintro w80 HM
     have hS := HM.sufN 3 rfl
     refine drw_any [9, 12] (by kernel_rfl) rfl (.cons ?_ (.cons ?_ .nil))
     ·refine br_does (l' := (bs 18 3071)) rfl (guard_none rfl) rfl rfl (by kernel_rfl) (does_ex' (ex_load1 rfl rfl U2 rfl ((rd_plain (HM.own_rd 2 rfl) e51) 0 _ rfl))) ?_
      rintro _ _ ⟨rfl, rfl⟩
      refine ⟨hS, (dt 10 (bs 18 4095) rfl rfl rfl rfl (by kernel_rfl) (ex_add rfl rfl rfl) hS ?_)⟩
      exact drw_sub (K65 _ HM) (Sub.of rfl)
     ·obtain ⟨F67, hF68, hFn69, hFl70, HMh71, hcl72⟩ := HM.hideN 1 rfl
      refine br_does (l' := (bs 18 6655)) rfl (guard_none rfl) rfl rfl (by kernel_rfl) (does_callk rfl callok16 rfl (spec_l1Next.calls (x0 := (⟨x0.fCode, a10⟩ : l1Src)) (x1 := 2) (hide_olds _ _) hF68 hFn69 hFl70 (HMh71.rdo hwo hp0_0) h52)) ?_
      rintro _ w81 ⟨rfl, hn⟩
      replace HM := hcl72 _ _ _ rfl hn
      have hS := HM.sufN 3 rfl
      exact ⟨hS, (drw_sub (K77 _ HM) (Sub.of rfl))⟩
    refine drw_cut0 (l' := (bs 18 6399)) (f' := 8) ([(0, pA b0 0), (2, pA b22 0), (3, pA b34 0), (4, nI a12), (17, v47), (19, v47), (28, nI t13.1), (23, nI (wrap64 ((a11.length : Int) - 1)))]) (fun w_ => Mem w X w_ [box b0 78 [p0_0, nI t13.2], box b34 66 [v47, nI 0, nI 0], own kInt 2 v47 a11, box b22 66 [.slice none 0 0, nI 0, nI 0]]) ?_ (fun K82 => ?_)
    ·rintro w83 HM
     have hS := HM.sufN 3 rfl
     refine dt 8 (bs 18 6655) rfl rfl rfl rfl (by kernel_rfl) (ex_indexAddr (d := kInt) rfl rfl rfl U58 tsz2 (HM.own_rd 2 rfl) (idx_lo e51) (idx_hi e51)) hS ?_
     exact drw_sub (K77 _ HM) (Sub.of rfl)
    refine drw_cut0 (l' := (bs 18 6653)) (f' := 8) ([(0, pA b0 0), (2, pA b22 0), (3, pA b34 0), (4, nI a12), (16, pA b34 0), (24, .pointer (some ⟨sb v47, so v47 + (wrap64 ((a11.length : Int) - 1)).toNat * 1, none⟩)), (28, nI t13.1)]) (fun w_ => Mem w X w_ [box b0 78 [p0_0, nI t13.2], box b34 66 [v47, nI 0, nI 0], own kInt 2 v47 a11, box b22 66 [.slice none 0 0, nI 0, nI 0]]) ?_ (fun K84 => ?_)
    ·rintro w85 HM
     have hS := HM.sufN 3 rfl
     refine drw_any [1, 9] (by kernel_rfl) rfl (.cons ?_ (.cons ?_ .nil))
     ·refine br_does (l' := (bs 18 6655)) rfl (guard_none rfl) rfl rfl (by kernel_rfl) (does_ex' (ex_load1 rfl rfl U58 rfl ((HM.box_at 1 rfl) 0 _ rfl))) ?_
      rintro _ _ ⟨rfl, rfl⟩
      exact ⟨hS, (drw_sub (K77 _ HM) (Sub.of rfl))⟩
     ·refine br_does (l' := (bs 18 7165)) rfl (guard_none rfl) rfl rfl (by kernel_rfl) (does_ex' (ex_load1 rfl rfl U2 rfl ((rd_plain (HM.own_rd 2 rfl) e51) 0 _ rfl))) ?_
      rintro _ _ ⟨rfl, rfl⟩
      refine ⟨hS, (dt 10 (bs 18 8189) rfl rfl rfl rfl (by kernel_rfl) (ex_add rfl rfl rfl) hS ?_)⟩
      exact drw_sub (K74 _ HM) (Sub.of rfl)
    refine drw_cut0 (l' := (bs 18 2303)) (f' := 9) ([(0, pA b0 0), (2, pA b22 0), (3, pA b34 0), (4, nI a12), (27, pA b0 0), (17, v47), (19, v47), (23, nI (wrap64 ((a11.length : Int) - 1)))]) (fun w_ => Mem w X w_ [box b0 78 [p0_0, nI a10], box b34 66 [v47, nI 0, nI 0], own kInt 2 v47 a11, box b22 66 [.slice none 0 0, nI 0, nI 0]]) ?_ (fun K86 => ?_)
    ·rintro w87 HM
     have hS := HM.sufN 3 rfl
     refine dt 8 (bs 18 2559) rfl rfl rfl rfl (by kernel_rfl) (ex_indexAddr (d := kInt) rfl rfl rfl U58 tsz2 (HM.own_rd 2 rfl) (idx_lo e51) (idx_hi e51)) hS ?_
     exact drw_sub (K79 _ HM) (Sub.of rfl)
    refine drw_cut0 (l' := (bs 18 6391)) (f' := 9) ([(0, pA b0 0), (2, pA b22 0), (3, pA b34 0), (4, nI a12), (18, pA b34 0), (17, v47), (23, nI (wrap64 ((a11.length : Int) - 1))), (28, nI t13.1)]) (fun w_ => Mem w X w_ [box b0 78 [p0_0, nI t13.2], box b34 66 [v47, nI 0, nI 0], own kInt 2 v47 a11, box b22 66 [.slice none 0 0, nI 0, nI 0]]) ?_ (fun K88 => ?_)
    ·rintro w89 HM
     have hS := HM.sufN 3 rfl
     refine drw_any [3] (by kernel_rfl) rfl (.cons ?_ .nil)
     refine br_does (l' := (bs 18 6399)) rfl (guard_none rfl) rfl rfl (by kernel_rfl) (does_ex' (ex_load1 rfl rfl U58 rfl ((HM.box_at 1 rfl) 0 _ rfl))) ?_
     rintro _ _ ⟨rfl, rfl⟩
     exact ⟨hS, (drw_sub (K82 _ HM) (Sub.of rfl))⟩
    refine drw_cut0 (l' := (bs 18 6397)) (f' := 9) ([(0, pA b0 0), (2, pA b22 0), (3, pA b34 0), (4, nI a12), (16, pA b34 0), (19, v47), (28, nI t13.1), (23, nI (wrap64 ((a11.length : Int) - 1)))]) (fun w_ => Mem w X w_ [box b0 78 [p0_0, nI t13.2], box b34 66 [v47, nI 0, nI 0], own kInt 2 v47 a11, box b22 66 [.slice none 0 0, nI 0, nI 0]]) ?_ (fun K90 => ?_)
    ·rintro w91 HM
     have hS := HM.sufN 3 rfl
     refine dt 8 (bs 18 6653) rfl rfl rfl rfl (by kernel_rfl) (ex_indexAddr (d := kInt) rfl rfl rfl U58 tsz2 (HM.own_rd 2 rfl) (idx_lo e51) (idx_hi e51)) hS ?_
     exact drw_sub (K84 _ HM) (Sub.of rfl)
    refine drw_cut0 (l' := (bs 18 2295)) (f' := 10) ([(0, pA b0 0), (2, pA b22 0), (3, pA b34 0), (4, nI a12), (18, pA b34 0), (27, pA b0 0), (17, v47), (23, nI (wrap64 ((a11.length : Int) - 1)))]) (fun w_ => Mem w X w_ [box b0 78 [p0_0, nI a10], box b34 66 [v47, nI 0, nI 0], own kInt 2 v47 a11, box b22 66 [.slice none 0 0, nI 0, nI 0]]) ?_ (fun K92 => ?_)
    ·rintro w93 HM
     have hS := HM.sufN 3 rfl
     refine drw_any [3, 12] (by kernel_rfl) rfl (.cons ?_ (.cons ?_ .nil))
     ·refine br_does (l' := (bs 18 2303)) rfl (guard_none rfl) rfl rfl (by kernel_rfl) (does_ex' (ex_load1 rfl rfl U58 rfl ((HM.box_at 1 rfl) 0 _ rfl))) ?_
      rintro _ _ ⟨rfl, rfl⟩
      exact ⟨hS, (drw_sub (K86 _ HM) (Sub.of rfl))⟩
     ·obtain ⟨F67, hF68, hFn69, hFl70, HMh71, hcl72⟩ := HM.hideN 1 rfl
      refine br_does (l' := (bs 18 6391)) rfl (guard_none rfl) rfl rfl (by kernel_rfl) (does_callk rfl callok16 rfl (spec_l1Next.calls (x0 := (⟨x0.fCode, a10⟩ : l1Src)) (x1 := 2) (hide_olds _ _) hF68 hFn69 hFl70 (HMh71.rdo hwo hp0_0) h52)) ?_
      rintro _ w94 ⟨rfl, hn⟩
      replace HM := hcl72 _ _ _ rfl hn
      have hS := HM.sufN 3 rfl
      exact ⟨hS, (drw_sub (K88 _ HM) (Sub.of rfl))⟩
    refine drw_cut0 (l' := (bs 18 2301)) (f' := 10) ([(0, pA b0 0), (2, pA b22 0), (3, pA b34 0), (4, nI a12), (16, pA b34 0), (27, pA b0 0), (19, v47), (23, nI (wrap64 ((a11.length : Int) - 1)))]) (fun w_ => Mem w X w_ [box b0 78 [p0_0, nI a10], box b34 66 [v47, nI 0, nI 0], own kInt 2 v47 a11, box b22 66 [.slice none 0 0, nI 0, nI 0]]) ?_ (fun K95 => ?_)
    ·rintro w96 HM
     have hS := HM.sufN 3 rfl
     refine dt 8 (bs 18 2557) rfl rfl rfl rfl (by kernel_rfl) (ex_indexAddr (d := kInt) rfl rfl rfl U58 tsz2 (HM.own_rd 2 rfl) (idx_lo e51) (idx_hi e51)) hS ?_
     refine drw_any [1, 9, 12] (by kernel_rfl) rfl (.cons ?_ (.cons ?_ (.cons ?_ .nil)))
     ·refine br_does (l' := (bs 18 2559)) rfl (guard_none rfl) rfl rfl (by kernel_rfl) (does_ex' (ex_load1 rfl rfl U58 rfl ((HM.box_at 1 rfl) 0 _ rfl))) ?_
      rintro _ _ ⟨rfl, rfl⟩
      exact ⟨hS, (drw_sub (K79 _ HM) (Sub.of rfl))⟩
     ·refine br_does (l' := (bs 18 3069)) rfl (guard_none rfl) rfl rfl (by kernel_rfl) (does_ex' (ex_load1 rfl rfl U2 rfl ((rd_plain (HM.own_rd 2 rfl) e51) 0 _ rfl))) ?_
      rintro _ _ ⟨rfl, rfl⟩
      refine ⟨hS, (dt 10 (bs 18 4093) rfl rfl rfl rfl (by kernel_rfl) (ex_add rfl rfl rfl) hS ?_)⟩
      refine drw_any [1, 12] (by kernel_rfl) rfl (.cons ?_ (.cons ?_ .nil))
      ·refine br_does (l' := (bs 18 4095)) rfl (guard_none rfl) rfl rfl (by kernel_rfl) (does_ex' (ex_load1 rfl rfl U58 rfl ((HM.box_at 1 rfl) 0 _ rfl))) ?_
       rintro _ _ ⟨rfl, rfl⟩
       exact ⟨hS, (drw_sub (K65 _ HM) (Sub.of rfl))⟩
      ·obtain ⟨F67, hF68, hFn69, hFl70, HMh71, hcl72⟩ := HM.hideN 1 rfl
       refine br_does (l' := (bs 18 8189)) rfl (guard_none rfl) rfl rfl (by kernel_rfl) (does_callk rfl callok16 rfl (spec_l1Next.calls (x0 := (⟨x0.fCode, a10⟩ : l1Src)) (x1 := 2) (hide_olds _ _) hF68 hFn69 hFl70 (HMh71.rdo hwo hp0_0) h52)) ?_
       rintro _ w97 ⟨rfl, hn⟩
       replace HM := hcl72 _ _ _ rfl hn
       have hS := HM.sufN 3 rfl
       exact ⟨hS, (drw_sub (K74 _ HM) (Sub.of rfl))⟩
     ·obtain ⟨F67, hF68, hFn69, hFl70, HMh71, hcl72⟩ := HM.hideN 1 rfl
      refine br_does (l' := (bs 18 6653)) rfl (guard_none rfl) rfl rfl (by kernel_rfl) (does_callk rfl callok16 rfl (spec_l1Next.calls (x0 := (⟨x0.fCode, a10⟩ : l1Src)) (x1 := 2) (hide_olds _ _) hF68 hFn69 hFl70 (HMh71.rdo hwo hp0_0) h52)) ?_
      rintro _ w98 ⟨rfl, hn⟩
      replace HM := hcl72 _ _ _ rfl hn
      have hS := HM.sufN 3 rfl
      exact ⟨hS, (drw_sub (K84 _ HM) (Sub.of rfl))⟩
    refine drw_cut0 (l' := (bs 18 6389)) (f' := 10) ([(0, pA b0 0), (2, pA b22 0), (3, pA b34 0), (4, nI a12), (16, pA b34 0), (18, pA b34 0), (23, nI (wrap64 ((a11.length : Int) - 1))), (28, nI t13.1)]) (fun w_ => Mem w X w_ [box b0 78 [p0_0, nI t13.2], box b34 66 [v47, nI 0, nI 0], own kInt 2 v47 a11, box b22 66 [.slice none 0 0, nI 0, nI 0]]) ?_ (fun K99 => ?_)
    ·rintro w100 HM
     have hS := HM.sufN 3 rfl
     refine drw_any [1, 3] (by kernel_rfl) rfl (.cons ?_ (.cons ?_ .nil))
     ·refine br_does (l' := (bs 18 6391)) rfl (guard_none rfl) rfl rfl (by kernel_rfl) (does_ex' (ex_load1 rfl rfl U58 rfl ((HM.box_at 1 rfl) 0 _ rfl))) ?_
      rintro _ _ ⟨rfl, rfl⟩
      exact ⟨hS, (drw_sub (K88 _ HM) (Sub.of rfl))⟩
     ·refine br_does (l' := (bs 18 6397)) rfl (guard_none rfl) rfl rfl (by kernel_rfl) (does_ex' (ex_load1 rfl rfl U58 rfl ((HM.box_at 1 rfl) 0 _ rfl))) ?_
      rintro _ _ ⟨rfl, rfl⟩
      exact ⟨hS, (drw_sub (K90 _ HM) (Sub.of rfl))⟩
    refine drw_cut0 (l' := (bs 18 6175)) (f' := 11) ([(0, pA b0 0), (2, pA b22 0), (3, pA b34 0), (4, nI a12), (20, pA b34 0), (17, v47), (19, v47), (28, nI t13.1)]) (fun w_ => Mem w X w_ [box b0 78 [p0_0, nI t13.2], box b34 66 [v47, nI 0, nI 0], own kInt 2 v47 a11, box b22 66 [.slice none 0 0, nI 0, nI 0]]) ?_ (fun K101 => ?_)
    ·rintro w102 HM
     have hS := HM.sufN 3 rfl
     refine drw_any [5] (by kernel_rfl) rfl (.cons ?_ .nil)
     refine br_does (l' := (bs 18 6207)) rfl (guard_none rfl) rfl rfl (by kernel_rfl) (does_ex' (ex_load1 rfl rfl U58 rfl ((HM.box_at 1 rfl) 0 _ rfl))) ?_
     rintro _ _ ⟨rfl, rfl⟩
     refine ⟨hS, (dt 6 (bs 18 6271) rfl rfl rfl rfl (by kernel_rfl) (ex_len (d := kInt) (xs := a11) rfl rfl U58 (HM.own_rd 2 rfl)) hS ?_)⟩
     refine dt 7 (bs 18 6399) rfl rfl rfl rfl (by kernel_rfl) (ex_sub rfl rfl rfl) hS ?_
     exact drw_sub (K82 _ HM) (Sub.of rfl)
    refine drw_cut0 (l' := (bs 18 2079)) (f' := 12) ([(0, pA b0 0), (2, pA b22 0), (3, pA b34 0), (4, nI a12), (20, pA b34 0), (27, pA b0 0), (17, v47), (19, v47)]) (fun w_ => Mem w X w_ [box b0 78 [p0_0, nI a10], box b34 66 [v47, nI 0, nI 0], own kInt 2 v47 a11, box b22 66 [.slice none 0 0, nI 0, nI 0]]) ?_ (fun K103 => ?_)
    ·rintro w104 HM
     have hS := HM.sufN 3 rfl
     refine drw_any [5, 12] (by kernel_rfl) rfl (.cons ?_ (.cons ?_ .nil))
     ·refine br_does (l' := (bs 18 2111)) rfl (guard_none rfl) rfl rfl (by kernel_rfl) (does_ex' (ex_load1 rfl rfl U58 rfl ((HM.box_at 1 rfl) 0 _ rfl))) ?_
      rintro _ _ ⟨rfl, rfl⟩
      refine ⟨hS, (dt 6 (bs 18 2175) rfl rfl rfl rfl (by kernel_rfl) (ex_len (d := kInt) (xs := a11) rfl rfl U58 (HM.own_rd 2 rfl)) hS ?_)⟩
      refine dt 7 (bs 18 2303) rfl rfl rfl rfl (by kernel_rfl) (ex_sub rfl rfl rfl) hS ?_
      exact drw_sub (K86 _ HM) (Sub.of rfl)
     ·obtain ⟨F67, hF68, hFn69, hFl70, HMh71, hcl72⟩ := HM.hideN 1 rfl
      refine br_does (l' := (bs 18 6175)) rfl (guard_none rfl) rfl rfl (by kernel_rfl) (does_callk rfl callok16 rfl (spec_l1Next.calls (x0 := (⟨x0.fCode, a10⟩ : l1Src)) (x1 := 2) (hide_olds _ _) hF68 hFn69 hFl70 (HMh71.rdo hwo hp0_0) h52)) ?_
      rintro _ w105 ⟨rfl, hn⟩
      replace HM := hcl72 _ _ _ rfl hn
      have hS := HM.sufN 3 rfl
      exact ⟨hS, (drw_sub (K101 _ HM) (Sub.of rfl))⟩
    refine drw_cut0 (l' := (bs 18 6167)) (f' := 12) ([(0, pA b0 0), (2, pA b22 0), (3, pA b34 0), (4, nI a12), (18, pA b34 0), (20, pA b34 0), (17, v47), (28, nI t13.1)]) (fun w_ => Mem w X w_ [box b0 78 [p0_0, nI t13.2], box b34 66 [v47, nI 0, nI 0], own kInt 2 v47 a11, box b22 66 [.slice none 0 0, nI 0, nI 0]]) ?_ (fun K106 => ?_)
    ·rintro w107 HM
     have hS := HM.sufN 3 rfl
     refine drw_any [3, 5] (by kernel_rfl) rfl (.cons ?_ (.cons ?_ .nil))
     ·refine br_does (l' := (bs 18 6175)) rfl (guard_none rfl) rfl rfl (by kernel_rfl) (does_ex' (ex_load1 rfl rfl U58 rfl ((HM.box_at 1 rfl) 0 _ rfl))) ?_
      rintro _ _ ⟨rfl, rfl⟩
      exact ⟨hS, (drw_sub (K101 _ HM) (Sub.of rfl))⟩
     ·refine br_does (l' := (bs 18 6199)) rfl (guard_none rfl) rfl rfl (by kernel_rfl) (does_ex' (ex_load1 rfl rfl U58 rfl ((HM.box_at 1 rfl) 0 _ rfl))) ?_
      rintro _ _ ⟨rfl, rfl⟩
      refine ⟨hS, (dt 6 (bs 18 6263) rfl rfl rfl rfl (by kernel_rfl) (ex_len (d := kInt) (xs := a11) rfl rfl U58 (HM.own_rd 2 rfl)) hS ?_)⟩
      refine dt 7 (bs 18 6391) rfl rfl rfl rfl (by kernel_rfl) (ex_sub rfl rfl rfl) hS ?_
      exact drw_sub (K88 _ HM) (Sub.of rfl)
    refine drw_cut0 (l' := (bs 18 6173)) (f' := 12) ([(0, pA b0 0), (2, pA b22 0), (3, pA b34 0), (4, nI a12), (16, pA b34 0), (20, pA b34 0), (19, v47), (28, nI t13.1)]) (fun w_ => Mem w X w_ [box b0 78 [p0_0, nI t13.2], box b34 66 [v47, nI 0, nI 0], own kInt 2 v47 a11, box b22 66 [.slice none 0 0, nI 0, nI 0]]) ?_ (fun K108 => ?_)
    ·rintro w109 HM
     have hS := HM.sufN 3 rfl
     refine drw_any [1, 5] (by kernel_rfl) rfl (.cons ?_ (.cons ?_ .nil))
     ·refine br_does (l' := (bs 18 6175)) rfl (guard_none rfl) rfl rfl (by kernel_rfl) (does_ex' (ex_load1 rfl rfl U58 rfl ((HM.box_at 1 rfl) 0 _ rfl))) ?_
      rintro _ _ ⟨rfl, rfl⟩
      exact ⟨hS, (drw_sub (K101 _ HM) (Sub.of rfl))⟩
     ·refine br_does (l' := (bs 18 6205)) rfl (guard_none rfl) rfl rfl (by kernel_rfl) (does_ex' (ex_load1 rfl rfl U58 rfl ((HM.box_at 1 rfl) 0 _ rfl))) ?_
      rintro _ _ ⟨rfl, rfl⟩
      refine ⟨hS, (dt 6 (bs 18 6269) rfl rfl rfl rfl (by kernel_rfl) (ex_len (d := kInt) (xs := a11) rfl rfl U58 (HM.own_rd 2 rfl)) hS ?_)⟩
      refine dt 7 (bs 18 6397) rfl rfl rfl rfl (by kernel_rfl) (ex_sub rfl rfl rfl) hS ?_
      exact drw_sub (K90 _ HM) (Sub.of rfl)
    refine dt 0 (bs 18 1) rfl rfl rfl rfl (by kernel_rfl) (ex_fieldAddr (off' := 0) rfl rfl U66 rfl tsz58 rfl) hS ?_
    refine dt 2 (bs 18 5) rfl rfl rfl rfl (by kernel_rfl) (ex_fieldAddr (off' := 0) rfl rfl U66 rfl tsz58 rfl) hS ?_
    refine dt 4 (bs 18 21) rfl rfl rfl rfl (by kernel_rfl) (ex_fieldAddr (off' := 0) rfl rfl U66 rfl tsz58 rfl) hS ?_
    refine dt 11 (bs 18 2069) rfl rfl rfl rfl (by kernel_rfl) (ex_move rfl rfl) hS ?_
    refine drw_any [1, 3, 5, 12] (by kernel_rfl) rfl (.cons ?_ (.cons ?_ (.cons ?_ (.cons ?_ .nil))))
    ·refine br_does (l' := (bs 18 2071)) rfl (guard_none rfl) rfl rfl (by kernel_rfl) (does_ex' (ex_load1 rfl rfl U58 rfl ((HM.box_at 1 rfl) 0 _ rfl))) ?_
     rintro _ _ ⟨rfl, rfl⟩
     refine ⟨hS, (drw_any [3, 5, 12] (by kernel_rfl) rfl (.cons ?_ (.cons ?_ (.cons ?_ .nil))))⟩
     ·refine br_does (l' := (bs 18 2079)) rfl (guard_none rfl) rfl rfl (by kernel_rfl) (does_ex' (ex_load1 rfl rfl U58 rfl ((HM.box_at 1 rfl) 0 _ rfl))) ?_
      rintro _ _ ⟨rfl, rfl⟩
      exact ⟨hS, (drw_sub (K103 _ HM) (Sub.of rfl))⟩
     ·refine br_does (l' := (bs 18 2103)) rfl (guard_none rfl) rfl rfl (by kernel_rfl) (does_ex' (ex_load1 rfl rfl U58 rfl ((HM.box_at 1 rfl) 0 _ rfl))) ?_
      rintro _ _ ⟨rfl, rfl⟩
      refine ⟨hS, (dt 6 (bs 18 2167) rfl rfl rfl rfl (by kernel_rfl) (ex_len (d := kInt) (xs := a11) rfl rfl U58 (HM.own_rd 2 rfl)) hS ?_)⟩
      refine dt 7 (bs 18 2295) rfl rfl rfl rfl (by kernel_rfl) (ex_sub rfl rfl rfl) hS ?_
      exact drw_sub (K92 _ HM) (Sub.of rfl)
     ·obtain ⟨F67, hF68, hFn69, hFl70, HMh71, hcl72⟩ := HM.hideN 1 rfl
      refine br_does (l' := (bs 18 6167)) rfl (guard_none rfl) rfl rfl (by kernel_rfl) (does_callk rfl callok16 rfl (spec_l1Next.calls (x0 := (⟨x0.fCode, a10⟩ : l1Src)) (x1 := 2) (hide_olds _ _) hF68 hFn69 hFl70 (HMh71.rdo hwo hp0_0) h52)) ?_
      rintro _ w110 ⟨rfl, hn⟩
      replace HM := hcl72 _ _ _ rfl hn
      have hS := HM.sufN 3 rfl
      exact ⟨hS, (drw_sub (K106 _ HM) (Sub.of rfl))⟩
    ·refine br_does (l' := (bs 18 2077)) rfl (guard_none rfl) rfl rfl (by kernel_rfl) (does_ex' (ex_load1 rfl rfl U58 rfl ((HM.box_at 1 rfl) 0 _ rfl))) ?_
     rintro _ _ ⟨rfl, rfl⟩
     refine ⟨hS, (drw_any [1, 5, 12] (by kernel_rfl) rfl (.cons ?_ (.cons ?_ (.cons ?_ .nil))))⟩
     ·refine br_does (l' := (bs 18 2079)) rfl (guard_none rfl) rfl rfl (by kernel_rfl) (does_ex' (ex_load1 rfl rfl U58 rfl ((HM.box_at 1 rfl) 0 _ rfl))) ?_
      rintro _ _ ⟨rfl, rfl⟩
      exact ⟨hS, (drw_sub (K103 _ HM) (Sub.of rfl))⟩
     ·refine br_does (l' := (bs 18 2109)) rfl (guard_none rfl) rfl rfl (by kernel_rfl) (does_ex' (ex_load1 rfl rfl U58 rfl ((HM.box_at 1 rfl) 0 _ rfl))) ?_
      rintro _ _ ⟨rfl, rfl⟩
      refine ⟨hS, (dt 6 (bs 18 2173) rfl rfl rfl rfl (by kernel_rfl) (ex_len (d := kInt) (xs := a11) rfl rfl U58 (HM.own_rd 2 rfl)) hS ?_)⟩
      refine dt 7 (bs 18 2301) rfl rfl rfl rfl (by kernel_rfl) (ex_sub rfl rfl rfl) hS ?_
      exact drw_sub (K95 _ HM) (Sub.of rfl)
     ·obtain ⟨F67, hF68, hFn69, hFl70, HMh71, hcl72⟩ := HM.hideN 1 rfl
      refine br_does (l' := (bs 18 6173)) rfl (guard_none rfl) rfl rfl (by kernel_rfl) (does_callk rfl callok16 rfl (spec_l1Next.calls (x0 := (⟨x0.fCode, a10⟩ : l1Src)) (x1 := 2) (hide_olds _ _) hF68 hFn69 hFl70 (HMh71.rdo hwo hp0_0) h52)) ?_
      rintro _ w111 ⟨rfl, hn⟩
      replace HM := hcl72 _ _ _ rfl hn
      have hS := HM.sufN 3 rfl
      exact ⟨hS, (drw_sub (K108 _ HM) (Sub.of rfl))⟩
    ·refine br_does (l' := (bs 18 2101)) rfl (guard_none rfl) rfl rfl (by kernel_rfl) (does_ex' (ex_load1 rfl rfl U58 rfl ((HM.box_at 1 rfl) 0 _ rfl))) ?_
     rintro _ _ ⟨rfl, rfl⟩
     refine ⟨hS, (dt 6 (bs 18 2165) rfl rfl rfl rfl (by kernel_rfl) (ex_len (d := kInt) (xs := a11) rfl rfl U58 (HM.own_rd 2 rfl)) hS ?_)⟩
     refine dt 7 (bs 18 2293) rfl rfl rfl rfl (by kernel_rfl) (ex_sub rfl rfl rfl) hS ?_
     refine drw_any [1, 3, 12] (by kernel_rfl) rfl (.cons ?_ (.cons ?_ (.cons ?_ .nil)))
     ·refine br_does (l' := (bs 18 2295)) rfl (guard_none rfl) rfl rfl (by kernel_rfl) (does_ex' (ex_load1 rfl rfl U58 rfl ((HM.box_at 1 rfl) 0 _ rfl))) ?_
      rintro _ _ ⟨rfl, rfl⟩
      exact ⟨hS, (drw_sub (K92 _ HM) (Sub.of rfl))⟩
     ·refine br_does (l' := (bs 18 2301)) rfl (guard_none rfl) rfl rfl (by kernel_rfl) (does_ex' (ex_load1 rfl rfl U58 rfl ((HM.box_at 1 rfl) 0 _ rfl))) ?_
      rintro _ _ ⟨rfl, rfl⟩
      exact ⟨hS, (drw_sub (K95 _ HM) (Sub.of rfl))⟩
     ·obtain ⟨F67, hF68, hFn69, hFl70, HMh71, hcl72⟩ := HM.hideN 1 rfl
      refine br_does (l' := (bs 18 6389)) rfl (guard_none rfl) rfl rfl (by kernel_rfl) (does_callk rfl callok16 rfl (spec_l1Next.calls (x0 := (⟨x0.fCode, a10⟩ : l1Src)) (x1 := 2) (hide_olds _ _) hF68 hFn69 hFl70 (HMh71.rdo hwo hp0_0) h52)) ?_
      rintro _ w112 ⟨rfl, hn⟩
      replace HM := hcl72 _ _ _ rfl hn
      have hS := HM.sufN 3 rfl
      exact ⟨hS, (drw_sub (K99 _ HM) (Sub.of rfl))⟩
    ·obtain ⟨F67, hF68, hFn69, hFl70, HMh71, hcl72⟩ := HM.hideN 1 rfl
     refine br_does (l' := (bs 18 6165)) rfl (guard_none rfl) rfl rfl (by kernel_rfl) (does_callk rfl callok16 rfl (spec_l1Next.calls (x0 := (⟨x0.fCode, a10⟩ : l1Src)) (x1 := 2) (hide_olds _ _) hF68 hFn69 hFl70 (HMh71.rdo hwo hp0_0) h52)) ?_
     rintro _ w113 ⟨rfl, hn⟩
     replace HM := hcl72 _ _ _ rfl hn
     have hS := HM.sufN 3 rfl
     refine ⟨hS, (drw_any [1, 3, 5] (by kernel_rfl) rfl (.cons ?_ (.cons ?_ (.cons ?_ .nil))))⟩
     ·refine br_does (l' := (bs 18 6167)) rfl (guard_none rfl) rfl rfl (by kernel_rfl) (does_ex' (ex_load1 rfl rfl U58 rfl ((HM.box_at 1 rfl) 0 _ rfl))) ?_
      rintro _ _ ⟨rfl, rfl⟩
      exact ⟨hS, (drw_sub (K106 _ HM) (Sub.of rfl))⟩
     ·refine br_does (l' := (bs 18 6173)) rfl (guard_none rfl) rfl rfl (by kernel_rfl) (does_ex' (ex_load1 rfl rfl U58 rfl ((HM.box_at 1 rfl) 0 _ rfl))) ?_
      rintro _ _ ⟨rfl, rfl⟩
      exact ⟨hS, (drw_sub (K108 _ HM) (Sub.of rfl))⟩
     ·refine br_does (l' := (bs 18 6197)) rfl (guard_none rfl) rfl rfl (by kernel_rfl) (does_ex' (ex_load1 rfl rfl U58 rfl ((HM.box_at 1 rfl) 0 _ rfl))) ?_
      rintro _ _ ⟨rfl, rfl⟩
      refine ⟨hS, (dt 6 (bs 18 6261) rfl rfl rfl rfl (by kernel_rfl) (ex_len (d := kInt) (xs := a11) rfl rfl U58 (HM.own_rd 2 rfl)) hS ?_)⟩
      refine dt 7 (bs 18 6389) rfl rfl rfl rfl (by kernel_rfl) (ex_sub rfl rfl rfl) hS ?_
      exact drw_sub (K99 _ HM) (Sub.of rfl)
   ·rintro _ w114 ⟨v54, rfl, HM⟩
    exact at_block (at_then (run_region rfl (oM rfl (oy rfl (ex_sub rfl rfl rfl) (oM rfl (ops_nil (at_again k48 (Nat.lt_succ_self _) ⟨_, _, _, _, ho37, rfl, HM⟩ (Sub.of rfl))))))))
  ·replace ho37 := cond_f hb50 ho37
   exact run_exit (at_then_exit (at_then_exit (at_block_exit (at_mid ⟨_, _, _, (sj ho37), rfl, HM⟩ (Sub.of rfl)))))
 ·rintro _ w115 ⟨a16, v38, a17, rfl, rfl, HM⟩
  replace H := cur2_mk H
  refine run_seq ?_
  obtain ⟨t18, h116, H⟩ := bind_some H
  refine run_region rfl (oM rfl (oy rfl (ex_fieldAddr (off' := 0) rfl rfl U66 rfl tsz58 rfl) (oy rfl (ex_load1 rfl rfl U58 rfl ((HM.box_at 2 rfl) 0 _ rfl)) (oy rfl (ex_len (d := kInt) (xs := a17) rfl rfl U58 (HM.own_rd 3 rfl)) ?_))))
  obtain ⟨F117, hF118, hFn119, hFl120, HMh121, hcl122⟩ := HM.hideN 1 rfl
  refine oz rfl (does_callk rfl callok16 rfl (spec_l1Next.calls (x0 := (⟨x0.fCode, a16⟩ : l1Src)) (x1 := (a17.length : Int)) (hide_olds _ _) hF118 hFn119 hFl120 (HMh121.rdo hwo hp0_0) h116)) ?_
  rintro _ w123 ⟨rfl, hn⟩
  replace HM := hcl122 _ _ _ rfl hn
  refine oy rfl (ex_add rfl rfl rfl) (oy rfl (ex_fieldAddr (off' := 1) rfl rfl U66 rfl tsz2 rfl) ?_)
  replace HM := HM.fr1 2 rfl
  refine odS rfl rfl rfl (does_store (vs := [nI (wrap64 (1 + t18.1))]) (cs' := [v38, nI (wrap64 (1 + t18.1)), nI 0]) rfl rfl rfl rfl tsz2 (Ones.int Ones.nil) rfl rfl HM) ?_
  rintro w124 HM
  refine ops_nil (at_then (run_seq ?_))
  obtain ⟨t19, h125, H⟩ := bind_some H
  obtain ⟨t20, h126, H⟩ := bind_some H
  refine run_region rfl (oM rfl (oM rfl ?_))
  replace HM := HM.fr1 1 rfl
  obtain ⟨F127, hF128, hFn129, hFl130, HMh131, hcl132⟩ := HM.hideN 1 rfl
  refine oz rfl (does_callk rfl callok16 rfl (spec_l1Next.calls (x0 := (⟨x0.fCode, t18.2⟩ : l1Src)) (x1 := 9) (hide_olds _ _) hF128 hFn129 hFl130 (HMh131.rdo hwo hp0_0) h125)) ?_
  rintro _ w133 ⟨rfl, hn⟩
  replace HM := hcl132 _ _ _ rfl hn
  refine oz rfl (does_lit (e := 2) (cs := [nI 0, nI 0, nI 0, nI t19.1]) (xs := ([0, 0, 0, t19.1] : List Int)) kInt rfl rfl (fun _ => by kernel_rfl) rfl rfl (fun _ _ h => by have h' : _ = [] := h; subst h'; exact (Elems.cons (d := kInt) (x := 0) (f := []) ⟨rfl, rfl⟩ (Elems.cons (d := kInt) (x := 0) (f := []) ⟨rfl, rfl⟩ (Elems.cons (d := kInt) (x := 0) (f := []) ⟨rfl, rfl⟩ (Elems.cons (d := kInt) (x := t19.1) (f := []) ⟨rfl, rfl⟩ .nil))))) HM.emp) ?_
  rintro v134 w135 HM
  replace HM := HM.fr1 1 rfl
  obtain ⟨F136, hF137, hFn138, hFl139, HMh140, hcl141⟩ := HM.hideN 1 rfl
  refine oz rfl (does_callk rfl callok15 rfl (spec_l1Pick.calls (x0 := (⟨x0.fCode, t19.2⟩ : l1Src)) (x1 := ([0, 0, 0, t19.1] : List Int)) (hide_olds _ _) hF137 hFn138 hFl139 (HMh140.rdo hwo hp0_0) (HMh140.own_rd 0 rfl) h126)) ?_
  rintro _ w142 ⟨rfl, hn⟩
  replace HM := hcl141 _ _ _ rfl hn
  refine oy rfl (ex_fieldAddr (off' := 2) rfl rfl U66 rfl tsz2 rfl) ?_
  replace HM := HM.fr1 2 rfl
  refine odS rfl rfl rfl (does_store (vs := [nI t20.1]) (cs' := [v38, nI (wrap64 (1 + t18.1)), nI t20.1]) rfl rfl rfl rfl tsz2 (Ones.int Ones.nil) rfl rfl HM) ?_
  rintro w143 HM
  refine ops_nil (at_then (run_seq (run_region rfl (oy rfl (ldN rfl rfl U66 rfl tsz66 ((HM.box_at 0 rfl).subL 0 3 rfl) rfl) ?_))))
  replace HM := HM.fr1 3 rfl
  refine odS rfl rfl rfl (does_store (vs := [v38, nI (wrap64 (1 + t18.1)), nI t20.1]) (cs' := [v38, nI (wrap64 (1 + t18.1)), nI t20.1]) rfl rfl rfl rfl tsz66 (Ones.rd (HM.own_rd 4 rfl) (Ones.int (Ones.int Ones.nil))) rfl rfl HM) ?_
  rintro w144 HM
  refine ops_nil (at_then (run_ret ?_))
  replace HM := ((HM.frd 1 rfl).frd 2 rfl).fr1 1 rfl
  replace HM := (HM.fr1 2 rfl).fr1 2 rfl
  have hcb0 := HM.box_at 0 rfl
  replace HM := HM.frd 0 rfl
  cases H
  exact at_retN rfl rfl U66 rfl tsz66 rfl hcb0 ⟨_, rfl, _, rfl, HM⟩
end Go.Proofs.YtecgbhfgkkpmhacGreat.Zk
