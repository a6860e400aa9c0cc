/- What functions of the program compute, each as a plain function, and that they do. Conditions: as each theorem states them. -/
import Derived.Test.YtecgbhfgkkpmhaaFnCoinsZkTy
namespace Go.Proofs.Ytecgbhfgkkpmhaa.Zk
open Go Go.RowKit Go.IntWalk Go.Proofs
set_option linter.unusedVariables false
set_option linter.unusedSimpArgs false
set_option maxRecDepth 100000
set_option maxHeartbeats 4000000
def laws_lwBig.f (k : Nat) (x0 : List Int) : Option Bool := some (decide (1048576 < (x0.length : Int)))
theorem laws_lwBig.calls {k : Nat} {x0 : List Int} {p0 : Value} {w : World} (hp0 : RdS kU8 w p0 x0) {r : Bool} (H : laws_lwBig.f k x0 = some r) :
  Calls Try.prog 4 ([p0] : List Value).toArray w (fun e w_ => ∃ v, e = .returned v ∧ v = (.bool r) ∧ Mem w [] w_ []) := by
 have HM := Mem.start w
 refine calls_run (N := 6) Try.func4 rfl rfl rfl rfl ?_
 unfold laws_lwBig.f at H
 refine run_seq ?_
 refine run_region rfl ?_
 refine ox rfl rfl rfl rfl (ex_assign rfl rfl) ?_
 refine ops_nil (at_then (run_seq ?_))
 refine run_region rfl ?_
 refine ox rfl rfl rfl rfl (ex_move rfl rfl) ?_
 refine ox rfl rfl rfl rfl (ex_len (d := kU8) (xs := x0) rfl rfl Try.underlying22 hp0) ?_
 refine ox rfl rfl rfl rfl (ex_gtr rfl rfl rfl) ?_
 refine ox rfl rfl rfl rfl (ex_assign rfl rfl) ?_
 refine ops_nil (at_then ?_)
 refine run_ret ?_
 have hR := Option.some.inj H
 subst hR
 exact at_ret1 rfl rfl ⟨_, rfl, rfl, HM⟩

def spec_l1Source.f (k : Nat) (x0 : List Int) : Option Int := some 0
theorem spec_l1Source.calls {k : Nat} {x0 : List Int} {p0 : Value} {w : World} (hp0 : RdS kU8 w p0 x0) {r : Int} (H : spec_l1Source.f k x0 = some r) :
  Calls Try.prog 15 ([p0] : List Value).toArray w (fun e w_ => ∃ v, e = .returned v ∧ ∃ ub : Nat, v = (.pointer (some ⟨ub, 0, none⟩)) ∧ Mem w [] w_ [box ub 76 [p0, .int .i64 r]]) := by
 have HM := Mem.start w
 refine calls_run (N := 6) Try.func15 rfl rfl rfl rfl ?_
 unfold spec_l1Source.f at H
 refine run_seq ?_
 refine run_region rfl ?_
 refine ox rfl rfl rfl rfl (ex_assign rfl rfl) ?_
 refine ops_nil (at_then (run_seq ?_))
 refine run_region rfl ?_
 refine ox rfl rfl rfl rfl (ex_move rfl rfl) ?_
 refine ox rfl rfl rfl rfl (ex_build1 (fun p0 => [(0, p0)]) (fun p0 => #[p0, .int .i64 0]) rfl rfl (fun _ _ _ => by kernel_rfl) hp0.isSl) ?_
 refine od rfl rfl rfl rfl (does_box (cs := [p0, .int .i64 0]) rfl rfl rfl HM) ?_
 rintro _ w13 ⟨b10, rfl, HM⟩
 refine ox rfl rfl rfl rfl (ex_assign rfl rfl) ?_
 refine ops_nil (at_then ?_)
 refine run_ret ?_
 have hR := Option.some.inj H
 subst hR
 exact at_ret1 rfl rfl ⟨_, rfl, _, rfl, HM⟩

def spec_l1Next.f (k : Nat) (x0 : l1Src) (x1 : Int) : Option (Int × Int) := (bif (decide (x1 < 1)) then some (0, wrap64 (x0.fAt + 1)) else (bif ((x0.fCode.length : Int) == 0) then (chk (x1 != 0) (some (Int.tmod (wrap64 ((wrap64 ((wrap64 (x0.fAt + 1)) - 1)) * 7)) x1, wrap64 (x0.fAt + 1)))) else (chk ((x0.fCode.length : Int) != 0) (chk (idxOk (Int.tmod (wrap64 ((wrap64 (x0.fAt + 1)) - 1)) (x0.fCode.length : Int)) x0.fCode.length) (chk ((x0.fCode.length : Int) != 0) (bif (decide (200 < x1)) then (chk ((x0.fCode.length : Int) != 0) (chk (idxOk (Int.tmod (wrap64 ((wrap64 ((wrap64 (x0.fAt + 1)) - 1)) + 1)) (x0.fCode.length : Int)) x0.fCode.length) (chk (x1 != 0) (some (Int.tmod (wrap64 ((wrap64 ((wrap64 ((wrap64 ((wrap64 (gt x0.fCode (Int.tmod (wrap64 ((wrap64 (x0.fAt + 1)) - 1)) (x0.fCode.length : Int)))) + (wrap64 ((IntKind.i64.wrap (Int.tdiv (wrap64 ((wrap64 (x0.fAt + 1)) - 1)) (x0.fCode.length : Int))) * 37)))) * 251)) + (wrap64 ((wrap64 (gt x0.fCode (Int.tmod (wrap64 ((wrap64 ((wrap64 (x0.fAt + 1)) - 1)) + 1)) (x0.fCode.length : Int)))) * 13)))) + (wrap64 ((wrap64 (x0.fAt + 1)) - 1)))) x1, wrap64 (x0.fAt + 1)))))) else (chk (x1 != 0) (some (Int.tmod (wrap64 ((wrap64 (gt x0.fCode (Int.tmod (wrap64 ((wrap64 (x0.fAt + 1)) - 1)) (x0.fCode.length : Int)))) + (wrap64 ((IntKind.i64.wrap (Int.tdiv (wrap64 ((wrap64 (x0.fAt + 1)) - 1)) (x0.fCode.length : Int))) * 37)))) x1, wrap64 (x0.fAt + 1))))))))))
theorem spec_l1Next.calls {k : Nat} {x0 : l1Src} {x1 : Int} {b0 : Nat} {p0_0 : Value} {w wo : World} {X : List Nat} (hwo : Olds wo w X) (hX : Hold w [box b0 76 [p0_0, .int .i64 x0.fAt]] X) (hXn : X.Nodup) (hXl : ∀ b ∈ X, b < w.heap.size) (hp0_0 : RdS kU8 wo p0_0 x0.fCode) {r : Int × Int} (H : spec_l1Next.f k x0 x1 = some r) :
  Calls Try.prog 18 ([.pointer (some ⟨b0, 0, none⟩), .int .i64 x1] : List Value).toArray w (fun e w_ => ∃ v, e = .returned v ∧ v = (.int .i64 r.1) ∧ Mem w X w_ [box b0 76 [p0_0, .int .i64 r.2]]) := by
 have HM := Mem.startX hX hXn hXl
 refine calls_run (N := 71) Try.func18 rfl rfl rfl rfl ?_
 unfold spec_l1Next.f at H
 refine run_seq ?_
 refine run_region rfl ?_
 refine ox rfl rfl rfl rfl (ex_assign rfl rfl) ?_
 refine ops_nil (at_then (run_seq ?_))
 refine run_region rfl ?_
 refine ox rfl rfl rfl rfl (ex_move rfl rfl) ?_
 refine ox rfl rfl rfl rfl (ex_move rfl rfl) ?_
 refine ox rfl rfl rfl rfl (ex_nilCheck rfl rfl) ?_
 refine ox rfl rfl rfl rfl (ex_fieldAddr (off' := 1) rfl rfl Try.underlying76 rfl tsz2 rfl) ?_
 refine ox rfl rfl rfl rfl (ex_load1 rfl rfl Try.underlying2 rfl ((HM.box_at 0 rfl) 1 _ rfl)) ?_
 refine ox rfl rfl rfl rfl (ex_add rfl rfl rfl) ?_
 refine ox rfl rfl rfl rfl (ex_nilCheck rfl rfl) ?_
 refine ox rfl rfl rfl rfl (ex_fieldAddr (off' := 1) rfl rfl Try.underlying76 rfl tsz2 rfl) ?_
 refine odS rfl rfl rfl (does_store (vs := [.int .i64 (wrap64 (x0.fAt + 1))]) (cs' := [p0_0, .int .i64 (wrap64 (x0.fAt + 1))]) rfl rfl rfl rfl tsz2 (Ones.int Ones.nil) rfl rfl HM) ?_
 rintro w38 HM
 refine ops_nil (at_then (run_seq ?_))
 refine run_seq ?_
 refine run_region rfl ?_
 refine ox rfl rfl rfl rfl (ex_move rfl rfl) ?_
 refine ox rfl rfl rfl rfl (ex_lss rfl rfl rfl) ?_
 refine ops_nil (at_then ?_)
 refine run_cond (b := (decide (x1 < 1))) rfl (fun hb40 => ?_) (fun hb40 => ?_)
 ·replace H := cond_t hb40 H
  refine run_seq ?_
  refine run_region rfl ?_
  refine ox rfl rfl rfl rfl (ex_assign rfl rfl) ?_
  refine ops_nil (at_then ?_)
  refine run_ret ?_
  refine at_then_ret ?_
  have hR := Option.some.inj H
  subst hR
  exact at_ret1 rfl rfl ⟨_, rfl, rfl, HM⟩
 ·replace H := cond_f hb40 H
  refine run_skip ?_
  refine at_then ?_
  refine run_seq ?_
  refine run_region rfl ?_
  refine ox rfl rfl rfl rfl (ex_move rfl rfl) ?_
  refine ox rfl rfl rfl rfl (ex_nilCheck rfl rfl) ?_
  refine ox rfl rfl rfl rfl (ex_fieldAddr (off' := 1) rfl rfl Try.underlying76 rfl tsz2 rfl) ?_
  refine ox rfl rfl rfl rfl (ex_load1 rfl rfl Try.underlying2 rfl ((HM.box_at 0 rfl) 1 _ rfl)) ?_
  refine ox rfl rfl rfl rfl (ex_sub rfl rfl rfl) ?_
  refine ox rfl rfl rfl rfl (ex_assign rfl rfl) ?_
  refine ops_nil (at_then (run_seq ?_))
  refine run_region rfl ?_
  refine ox rfl rfl rfl rfl (ex_move rfl rfl) ?_
  refine ox rfl rfl rfl rfl (ex_nilCheck rfl rfl) ?_
  refine ox rfl rfl rfl rfl (ex_fieldAddr (off' := 0) rfl rfl Try.underlying76 rfl tsz22 rfl) ?_
  refine ox rfl rfl rfl rfl (ex_load1 rfl rfl Try.underlying22 rfl ((HM.box_at 0 rfl) 0 _ rfl)) ?_
  refine ox rfl rfl rfl rfl (ex_len (d := kU8) (xs := x0.fCode) rfl rfl Try.underlying22 hp0_0) ?_
  refine ox rfl rfl rfl rfl (ex_assign rfl rfl) ?_
  refine ops_nil (at_then (run_seq ?_))
  refine run_seq ?_
  refine run_region rfl ?_
  refine ox rfl rfl rfl rfl (ex_move rfl rfl) ?_
  refine ox rfl rfl rfl rfl (ex_eql rfl rfl rfl) ?_
  refine ops_nil (at_then ?_)
  refine run_cond (b := ((x0.fCode.length : Int) == 0)) rfl (fun hb43 => ?_) (fun hb43 => ?_)
  ·replace H := cond_t hb43 H
   refine run_seq ?_
   obtain ⟨e44, H⟩ := chk_some H
   refine run_region rfl ?_
   refine ox rfl rfl rfl rfl (ex_move rfl rfl) ?_
   refine ox rfl rfl rfl rfl (ex_mul rfl rfl rfl) ?_
   refine ox rfl rfl rfl rfl (ex_move rfl rfl) ?_
   refine ox rfl rfl rfl rfl (ex_remk rfl rfl rfl e44) ?_
   refine ox rfl rfl rfl rfl (ex_assign rfl rfl) ?_
   refine ops_nil (at_then ?_)
   refine run_ret ?_
   refine at_then_ret ?_
   have hR := Option.some.inj H
   subst hR
   exact at_ret1 rfl rfl ⟨_, rfl, rfl, HM⟩
  ·replace H := cond_f hb43 H
   refine run_skip ?_
   refine at_then ?_
   refine run_seq ?_
   obtain ⟨e45, H⟩ := chk_some H
   obtain ⟨e46, H⟩ := chk_some H
   obtain ⟨e48, H⟩ := chk_some H
   refine run_drawf (fun w_ => Mem w X w_ [box b0 76 [p0_0, .int .i64 (wrap64 (x0.fAt + 1))]]) [(0, true), (1, true), (2, true), (3, true), (4, true), (5, true), (6, true), (7, true), (8, true), (9, true), (10, true), (11, true), (12, true), (13, true), (14, true), (15, true)] mixed rfl rfl (by kernel_rfl) ?_
   replace HM := HM.grow (fr_drew _)
   have hS := Mem.suf (M := []) HM
   refine dp rfl rfl rfl rfl (ex_move rfl rfl) hS ?_
   refine dp rfl rfl rfl rfl (ex_nilCheck rfl rfl) hS ?_
   refine dp rfl rfl rfl rfl (ex_fieldAddr (off' := 0) rfl rfl Try.underlying76 rfl tsz22 rfl) hS ?_
   refine drwp_take rfl (guard_none rfl) rfl rfl (fun w_ hS_ => (ex_load1 rfl rfl Try.underlying22 rfl ((hS_.box_at 0 rfl) 0 _ rfl))) hS ?_
   refine dp rfl rfl rfl rfl (ex_move rfl rfl) hS ?_
   refine dp rfl rfl rfl rfl (ex_move rfl rfl) hS ?_
   refine dp rfl rfl rfl rfl (ex_remk rfl rfl rfl e45) hS ?_
   have hc47 : CellsAt _ (sb p0_0) (so p0_0 + (Int.tmod (wrap64 ((wrap64 (x0.fAt + 1)) - 1)) (x0.fCode.length : Int)).toNat * 1) [(.int .u8 (gt x0.fCode (Int.tmod (wrap64 ((wrap64 (x0.fAt + 1)) - 1)) (x0.fCode.length : Int))))] := rd_plain hp0_0 e46
   refine dp rfl rfl rfl rfl (ex_indexAddr (d := kU8) rfl rfl rfl Try.underlying22 tsz5 hp0_0 (idx_lo e46) (idx_hi e46)) hS ?_
   refine drwp_take rfl (guard_none rfl) rfl rfl (fun w_ hS_ => (ex_load1 rfl rfl Try.underlying5 rfl ((hS_.ato hwo hc47) 0 _ rfl))) hS ?_
   refine dp rfl rfl rfl rfl (ex_conv64 rfl rfl (by rw [Try.underlying5]; rfl) Try.underlying2) hS ?_
   refine dp rfl rfl rfl rfl (ex_move rfl rfl) hS ?_
   refine dp rfl rfl rfl rfl (ex_move rfl rfl) hS ?_
   refine dp rfl rfl rfl rfl (ex_quok rfl rfl rfl e48) hS ?_
   refine dp rfl rfl rfl rfl (ex_mul rfl rfl rfl) hS ?_
   refine dp rfl rfl rfl rfl (ex_add rfl rfl rfl) hS ?_
   refine dp rfl rfl rfl rfl (ex_assign rfl rfl) hS ?_
   refine drwp_done ?_
   refine at_then ?_
   refine run_seq ?_
   refine run_seq ?_
   refine run_region rfl ?_
   refine ox rfl rfl rfl rfl (ex_move rfl rfl) ?_
   refine ox rfl rfl rfl rfl (ex_gtr rfl rfl rfl) ?_
   refine ops_nil (at_then ?_)
   refine run_cond (b := (decide (200 < x1))) rfl (fun hb49 => ?_) (fun hb49 => ?_)
   ·replace H := cond_t hb49 H
    obtain ⟨e50, H⟩ := chk_some H
    obtain ⟨e51, H⟩ := chk_some H
    refine run_drawf (fun w_ => Mem w X w_ [box b0 76 [p0_0, .int .i64 (wrap64 (x0.fAt + 1))]]) [(0, true), (1, true), (2, true), (3, true), (4, true), (5, true), (6, true), (7, true), (8, true), (9, true), (10, true), (11, true), (12, true), (13, true), (14, true), (15, true), (16, true), (17, true)] mixed rfl rfl (by kernel_rfl) ?_
    replace HM := HM.grow (fr_drew _)
    have hS := Mem.suf (M := []) HM
    refine dp rfl rfl rfl rfl (ex_move rfl rfl) hS ?_
    refine dp rfl rfl rfl rfl (ex_mul rfl rfl rfl) hS ?_
    refine dp rfl rfl rfl rfl (ex_move rfl rfl) hS ?_
    refine dp rfl rfl rfl rfl (ex_nilCheck rfl rfl) hS ?_
    refine dp rfl rfl rfl rfl (ex_fieldAddr (off' := 0) rfl rfl Try.underlying76 rfl tsz22 rfl) hS ?_
    refine drwp_take rfl (guard_none rfl) rfl rfl (fun w_ hS_ => (ex_load1 rfl rfl Try.underlying22 rfl ((hS_.box_at 0 rfl) 0 _ rfl))) hS ?_
    refine dp rfl rfl rfl rfl (ex_move rfl rfl) hS ?_
    refine dp rfl rfl rfl rfl (ex_add rfl rfl rfl) hS ?_
    refine dp rfl rfl rfl rfl (ex_move rfl rfl) hS ?_
    refine dp rfl rfl rfl rfl (ex_remk rfl rfl rfl e50) hS ?_
    have hc52 : CellsAt _ (sb p0_0) (so p0_0 + (Int.tmod (wrap64 ((wrap64 ((wrap64 (x0.fAt + 1)) - 1)) + 1)) (x0.fCode.length : Int)).toNat * 1) [(.int .u8 (gt x0.fCode (Int.tmod (wrap64 ((wrap64 ((wrap64 (x0.fAt + 1)) - 1)) + 1)) (x0.fCode.length : Int))))] := rd_plain hp0_0 e51
    refine dp rfl rfl rfl rfl (ex_indexAddr (d := kU8) rfl rfl rfl Try.underlying22 tsz5 hp0_0 (idx_lo e51) (idx_hi e51)) hS ?_
    refine drwp_take rfl (guard_none rfl) rfl rfl (fun w_ hS_ => (ex_load1 rfl rfl Try.underlying5 rfl ((hS_.ato hwo hc52) 0 _ rfl))) hS ?_
    refine dp rfl rfl rfl rfl (ex_conv64 rfl rfl (by rw [Try.underlying5]; rfl) Try.underlying2) hS ?_
    refine dp rfl rfl rfl rfl (ex_mul rfl rfl rfl) hS ?_
    refine dp rfl rfl rfl rfl (ex_add rfl rfl rfl) hS ?_
    refine dp rfl rfl rfl rfl (ex_move rfl rfl) hS ?_
    refine dp rfl rfl rfl rfl (ex_add rfl rfl rfl) hS ?_
    refine dp rfl rfl rfl rfl (ex_assign rfl rfl) hS ?_
    refine drwp_done ?_
    refine at_then ?_
    refine run_seq ?_
    obtain ⟨e53, H⟩ := chk_some H
    refine run_region rfl ?_
    refine ox rfl rfl rfl rfl (ex_move rfl rfl) ?_
    refine ox rfl rfl rfl rfl (ex_move rfl rfl) ?_
    refine ox rfl rfl rfl rfl (ex_remk rfl rfl rfl e53) ?_
    refine ox rfl rfl rfl rfl (ex_assign rfl rfl) ?_
    refine ops_nil (at_then ?_)
    refine run_ret ?_
    have hR := Option.some.inj H
    subst hR
    exact at_ret1 rfl rfl ⟨_, rfl, rfl, HM⟩
   ·replace H := cond_f hb49 H
    refine run_skip ?_
    refine at_then ?_
    refine run_seq ?_
    obtain ⟨e54, H⟩ := chk_some H
    refine run_region rfl ?_
    refine ox rfl rfl rfl rfl (ex_move rfl rfl) ?_
    refine ox rfl rfl rfl rfl (ex_move rfl rfl) ?_
    refine ox rfl rfl rfl rfl (ex_remk rfl rfl rfl e54) ?_
    refine ox rfl rfl rfl rfl (ex_assign rfl rfl) ?_
    refine ops_nil (at_then ?_)
    refine run_ret ?_
    have hR := Option.some.inj H
    subst hR
    exact at_ret1 rfl rfl ⟨_, rfl, rfl, HM⟩

def spec_l1Pick.f (k : Nat) (x0 : l1Src) (x1 : List Int) : Option (Int × Int) := ((spec_l1Next.f k x0 (x1.length : Int)).bind fun t218 => (chk (idxOk t218.1 x1.length) (some ((gt x1 t218.1), t218.2))))
theorem spec_l1Pick.calls {k : Nat} {x0 : l1Src} {x1 : List Int} {b0 : Nat} {p0_0 : Value} {p1 : Value} {w wo : World} {X : List Nat} (hwo : Olds wo w X) (hX : Hold w [box b0 76 [p0_0, .int .i64 x0.fAt]] X) (hXn : X.Nodup) (hXl : ∀ b ∈ X, b < w.heap.size) (hp0_0 : RdS kU8 wo p0_0 x0.fCode) (hp1 : RdS kInt wo p1 x1) {r : Int × Int} (H : spec_l1Pick.f k x0 x1 = some r) :
  Calls Try.prog 19 ([.pointer (some ⟨b0, 0, none⟩), p1] : List Value).toArray w (fun e w_ => ∃ v, e = .returned v ∧ v = (.int .i64 r.1) ∧ Mem w X w_ [box b0 76 [p0_0, .int .i64 r.2]]) := by
 have HM := Mem.startX hX hXn hXl
 refine calls_run (N := 12) Try.func19 rfl rfl rfl rfl ?_
 unfold spec_l1Pick.f at H
 refine run_seq ?_
 refine run_region rfl ?_
 refine ox rfl rfl rfl rfl (ex_assign rfl rfl) ?_
 refine ops_nil (at_then (run_seq ?_))
 obtain ⟨t218, h219, H⟩ := bind_some H
 obtain ⟨e226, H⟩ := chk_some H
 refine run_region rfl ?_
 refine ox rfl rfl rfl rfl (ex_move rfl rfl) ?_
 refine ox rfl rfl rfl rfl (ex_move rfl rfl) ?_
 refine ox rfl rfl rfl rfl (ex_move rfl rfl) ?_
 refine ox rfl rfl rfl rfl (ex_len (d := kInt) (xs := x1) rfl rfl Try.underlying32 hp1) ?_
 obtain ⟨F220, hF221, hFn222, hFl223, HMh224, hcl225⟩ := HM.hide (Ms := [box b0 76 [p0_0, .int .i64 x0.fAt]])
 refine od rfl rfl rfl rfl (does_callk rfl callok18 rfl (spec_l1Next.calls (x0 := x0) (x1 := (x1.length : Int)) (hide_olds _ _) hF221 hFn222 hFl223 (HMh224.rdo hwo hp0_0) h219)) ?_
 rintro _ w228 ⟨rfl, hn⟩
 replace HM : Mem w X w228 [box b0 76 [p0_0, .int .i64 t218.2]] := hcl225 _ _ hn
 have hc227 : CellsAt _ (sb p1) (so p1 + (t218.1).toNat * 1) [(.int .i64 (gt x1 t218.1))] := rd_plain hp1 e226
 refine ox rfl rfl rfl rfl (ex_indexAddr (d := kInt) rfl rfl rfl Try.underlying32 tsz2 hp1 (idx_lo e226) (idx_hi e226)) ?_
 refine ox rfl rfl rfl rfl (ex_load1 rfl rfl Try.underlying2 rfl ((HM.ato hwo hc227) 0 _ rfl)) ?_
 refine ox rfl rfl rfl rfl (ex_assign rfl rfl) ?_
 refine ops_nil (at_then ?_)
 refine run_ret ?_
 have hR := Option.some.inj H
 subst hR
 exact at_ret1 rfl rfl ⟨_, rfl, rfl, HM⟩

def spec_l2Draw.l0 (x0 : l1Src) : Nat → Int → (List Int) → Int → Option (Int × (List Int))
 | 0, _, _, _ => none
 | k + 1, a351, a353, a355 => (bif (decide (0 < a355)) then (chk (idxOk (wrap64 ((a353.length : Int) - 1)) a353.length) ((spec_l1Next.f k (⟨x0.fCode, a351⟩ : l1Src) 2).bind fun t376 => (chk (leB ((a353.length + ([wrap64 ((wrap64 ((gt a353 (wrap64 ((a353.length : Int) - 1))) + 1)) + t376.1)] : List Int).length) * 8) 140737488355328) (spec_l2Draw.l0 x0 k t376.2 (a353 ++ ([wrap64 ((wrap64 ((gt a353 (wrap64 ((a353.length : Int) - 1))) + 1)) + t376.1)] : List Int)) (wrap64 (a355 - 1)))))) else some (a351, a353))
theorem spec_l2Draw.l0_z (x0 : l1Src) (a351 : Int) (a353 : List Int) (a355 : Int) : spec_l2Draw.l0 x0 0 a351 a353 a355 = none := rfl
theorem spec_l2Draw.l0_s (x0 : l1Src) (k : Nat) (a351 : Int) (a353 : List Int) (a355 : Int) : spec_l2Draw.l0 x0 (k + 1) a351 a353 a355 = (bif (decide (0 < a355)) then (chk (idxOk (wrap64 ((a353.length : Int) - 1)) a353.length) ((spec_l1Next.f k (⟨x0.fCode, a351⟩ : l1Src) 2).bind fun t376 => (chk (leB ((a353.length + ([wrap64 ((wrap64 ((gt a353 (wrap64 ((a353.length : Int) - 1))) + 1)) + t376.1)] : List Int).length) * 8) 140737488355328) (spec_l2Draw.l0 x0 k t376.2 (a353 ++ ([wrap64 ((wrap64 ((gt a353 (wrap64 ((a353.length : Int) - 1))) + 1)) + t376.1)] : List Int)) (wrap64 (a355 - 1)))))) else some (a351, a353)) := rfl
def spec_l2Draw.f (k : Nat) (x0 : l1Src) : Option (Rule × Int) := ((spec_l1Next.f k x0 3).bind fun t241 => (((spec_l1Next.f k (⟨x0.fCode, t241.2⟩ : l1Src) 3).bind fun t326 => spec_l2Draw.l0 x0 k t326.2 ([wrap64 (1 + t241.1)] : List Int) t326.1).bind (cur2 (fun a320 a322 => ((spec_l1Next.f k (⟨x0.fCode, a320⟩ : l1Src) (a322.length : Int)).bind fun t458 => ((spec_l1Next.f k (⟨x0.fCode, t458.2⟩ : l1Src) 9).bind fun t468 => ((spec_l1Pick.f k (⟨x0.fCode, t468.2⟩ : l1Src) ([0, 0, 0, t468.1] : List Int)).bind fun t479 => some ((⟨a322, wrap64 (1 + t458.1), t479.1⟩ : Rule), t479.2))))))))
theorem spec_l2Draw.calls {k : Nat} {x0 : l1Src} {b0 : Nat} {p0_0 : Value} {w wo : World} {X : List Nat} (hwo : Olds wo w X) (hX : Hold w [box b0 76 [p0_0, .int .i64 x0.fAt]] X) (hXn : X.Nodup) (hXl : ∀ b ∈ X, b < w.heap.size) (hp0_0 : RdS kU8 wo p0_0 x0.fCode) {r : Rule × Int} (H : spec_l2Draw.f k x0 = some r) :
  Calls Try.prog 43 ([.pointer (some ⟨b0, 0, none⟩)] : List Value).toArray w (fun e w_ => ∃ v, e = .returned v ∧ ∃ u0 : Value, v = (.agg #[u0, .int .i64 r.1.fNeed, .int .i64 r.1.fAfter]) ∧ Mem w X w_ [own kInt 2 u0 r.1.fKeys, box b0 76 [p0_0, .int .i64 r.2]]) := by
 have HM := Mem.startX hX hXn hXl
 refine calls_run (N := 47) Try.func43 rfl rfl rfl rfl ?_
 unfold spec_l2Draw.f at H
 refine run_seq ?_
 refine run_region rfl ?_
 refine od rfl rfl rfl rfl (does_alloc (cs := [.slice none 0 0, .int .i64 0, .int .i64 0]) rfl tz34 rfl HM) ?_
 rintro _ w240 ⟨b237, rfl, HM⟩
 refine ops_nil (at_then (run_seq ?_))
 obtain ⟨t241, h242, H⟩ := bind_some H
 refine run_region rfl ?_
 refine ox rfl rfl rfl rfl (ex_move rfl rfl) ?_
 replace HM := HM.front 1 rfl rfl
 obtain ⟨F243, hF244, hFn245, hFl246, HMh247, hcl248⟩ := HM.hide (Ms := [box b0 76 [p0_0, .int .i64 x0.fAt]])
 refine od rfl rfl rfl rfl (does_callk rfl callok18 rfl (spec_l1Next.calls (x0 := x0) (x1 := 3) (hide_olds _ _) hF244 hFn245 hFl246 (HMh247.rdo hwo hp0_0) h242)) ?_
 rintro _ w255 ⟨rfl, hn⟩
 replace HM : Mem w X w255 [box b0 76 [p0_0, .int .i64 t241.2], box b237 34 [.slice none 0 0, .int .i64 0, .int .i64 0]] := hcl248 _ _ hn
 refine ox rfl rfl rfl rfl (ex_add rfl rfl rfl) ?_
 refine od rfl rfl rfl rfl (does_lit (e := 2) (cs := [.int .i64 (wrap64 (1 + t241.1))]) (xs := ([wrap64 (1 + t241.1)] : List Int)) kInt rfl rfl (fun _ => by kernel_rfl) rfl rfl (fun _ _ h => by have h' : _ = [] := h; subst h'; exact (Elems.cons (d := kInt) (x := wrap64 (1 + t241.1)) (f := []) ⟨rfl, rfl⟩ .nil)) HM.emp) ?_
 rintro v249 w256 HM
 refine ox rfl rfl rfl rfl (ex_build1 (fun v249 => [(0, v249)]) (fun v249 => #[v249, .int .i64 0, .int .i64 0]) rfl rfl (fun _ _ _ => by kernel_rfl) (HM.own_rd 0 rfl).isSl) ?_
 refine od rfl rfl rfl rfl (does_alloc (cs := [.slice none 0 0, .int .i64 0, .int .i64 0]) rfl tz34 rfl HM) ?_
 rintro _ w257 ⟨b252, rfl, HM⟩
 refine odS rfl rfl rfl (does_store (vs := [v249, .int .i64 0, .int .i64 0]) (cs' := [v249, .int .i64 0, .int .i64 0]) rfl rfl rfl rfl tsz34 (Ones.rd (HM.own_rd 1 rfl) (Ones.int (Ones.int Ones.nil))) rfl rfl HM) ?_
 rintro w258 HM
 refine ops_nil (at_then ?_)
 obtain ⟨o324, ho325, H⟩ := bind_some H
 refine run_mid (fun ρ_ w_ => ∃ a320 : Int, ∃ v321 : Value, ∃ a322 : List Int, (a320, a322) = o324 ∧ ρ_ = [(0, .pointer (some ⟨b0, 0, none⟩)), (2, .pointer (some ⟨b237, 0, none⟩)), (3, .pointer (some ⟨b252, 0, none⟩))] ∧ Mem w X w_ [box b0 76 [p0_0, .int .i64 a320], box b237 34 [.slice none 0 0, .int .i64 0, .int .i64 0], box b252 34 [v321, .int .i64 0, .int .i64 0], own kInt 2 v321 a322]) ?_ ?_
 ·clear H
  refine run_seq ?_
  obtain ⟨t326, h327, ho325⟩ := bind_some ho325
  refine run_region rfl ?_
  refine ox rfl rfl rfl rfl (ex_move rfl rfl) ?_
  replace HM := HM.front 2 rfl rfl
  obtain ⟨F328, hF329, hFn330, hFl331, HMh332, hcl333⟩ := HM.hide (Ms := [box b0 76 [p0_0, .int .i64 t241.2]])
  refine od rfl rfl rfl rfl (does_callk rfl callok18 rfl (spec_l1Next.calls (x0 := (⟨x0.fCode, t241.2⟩ : l1Src)) (x1 := 3) (hide_olds _ _) hF329 hFn330 hFl331 (HMh332.rdo hwo hp0_0) h327)) ?_
  rintro _ w334 ⟨rfl, hn⟩
  replace HM : Mem w X w334 [box b0 76 [p0_0, .int .i64 t326.2], box b252 34 [v249, .int .i64 0, .int .i64 0], own kInt 2 v249 ([wrap64 (1 + t241.1)] : List Int), box b237 34 [.slice none 0 0, .int .i64 0, .int .i64 0]] := hcl333 _ _ hn
  refine ox rfl rfl rfl rfl (ex_assign rfl rfl) ?_
  refine ops_nil (at_then ?_)
  refine run_block ?_
  replace HM := HM.front 2 rfl rfl
  replace HM := HM.front 2 rfl rfl
  replace HM := HM.front 3 rfl rfl
  replace HM := HM.front 3 rfl rfl
  refine run_loop (fun k_ ρ_ w_ => ∃ a351 : Int, ∃ v352 : Value, ∃ a353 : List Int, ∃ a355 : Int, spec_l2Draw.l0 x0 k_ a351 a353 a355 = some o324 ∧ ρ_ = [(0, .pointer (some ⟨b0, 0, none⟩)), (2, .pointer (some ⟨b237, 0, none⟩)), (3, .pointer (some ⟨b252, 0, none⟩)), (4, .int .i64 a355)] ∧ Mem w X w_ [box b0 76 [p0_0, .int .i64 a351], box b237 34 [.slice none 0 0, .int .i64 0, .int .i64 0], box b252 34 [v352, .int .i64 0, .int .i64 0], own kInt 2 v352 a353]) k (ρ1 := [(0, .pointer (some ⟨b0, 0, none⟩)), (2, .pointer (some ⟨b237, 0, none⟩)), (3, .pointer (some ⟨b252, 0, none⟩)), (4, .int .i64 t326.1)]) ⟨_, _, _, _, ho325, rfl, HM⟩ (Sub.cons rfl (Sub.cons rfl (Sub.cons rfl (Sub.cons rfl Sub.nil)))) ?_
  clear HM ho325
  rintro k372 _ w373 ⟨a351, v352, a353, a355, ho325, rfl, HM⟩
  obtain _ | k372 := k372
  ·exact nomatch ((spec_l2Draw.l0_z x0 a351 a353 a355).symm.trans ho325)
  replace ho325 := (spec_l2Draw.l0_s x0 k372 a351 a353 a355).symm.trans ho325
  refine run_seq ?_
  refine run_seq ?_
  refine run_region rfl ?_
  refine ox rfl rfl rfl rfl (ex_move rfl rfl) ?_
  refine ox rfl rfl rfl rfl (ex_gtr rfl rfl rfl) ?_
  refine ops_nil (at_then ?_)
  refine run_cond (b := (decide (0 < a355))) rfl (fun hb374 => ?_) (fun hb374 => ?_)
  ·replace ho325 := cond_t hb374 ho325
   refine run_skip ?_
   refine at_then ?_
   refine run_seq ?_
   refine run_block ?_
   obtain ⟨e375, ho325⟩ := chk_some ho325
   obtain ⟨t376, h377, ho325⟩ := bind_some ho325
   obtain ⟨e387, ho325⟩ := chk_some ho325
   refine run_meet (fun ρ_ w_ => ∃ v388 : Value, ρ_ = [(0, .pointer (some ⟨b0, 0, none⟩)), (2, .pointer (some ⟨b237, 0, none⟩)), (3, .pointer (some ⟨b252, 0, none⟩)), (4, .int .i64 a355)] ∧ Mem w X w_ [box b0 76 [p0_0, .int .i64 t376.2], box b237 34 [.slice none 0 0, .int .i64 0, .int .i64 0], box b252 34 [v388, .int .i64 0, .int .i64 0], own kInt 2 v388 (a353 ++ ([wrap64 ((wrap64 ((gt a353 (wrap64 ((a353.length : Int) - 1))) + 1)) + t376.1)] : List Int))]) ?_ ?_
   ·skip
    replace HM := HM.front 3 rfl rfl
    replace HM := HM.front 3 rfl rfl
    replace HM := HM.front 2 rfl rfl
    refine run_draw (fun w_ => Mem w X w_ [box b237 34 [.slice none 0 0, .int .i64 0, .int .i64 0]]) mixed rfl (l := #[false, false, false, false, false, false, false, false, false, false, false, false, false, false, false, false, false, false]) rfl ?_
    replace HM := HM.grow (fr_drew _)
    have hS := Mem.suf (M := [box b0 76 [p0_0, .int .i64 a351], box b252 34 [v352, .int .i64 0, .int .i64 0], own kInt 2 v352 a353]) HM
    refine drw_cut1 (l' := (bs 18 32767)) (f' := 3) (fun (v384 : Value) => [(0, .pointer (some ⟨b0, 0, none⟩)), (2, .pointer (some ⟨b237, 0, none⟩)), (3, .pointer (some ⟨b252, 0, none⟩)), (4, .int .i64 a355), (17, v352), (30, v384)]) (fun (v384 : Value) => fun w_ => Mem w X w_ [own kInt 2 v384 ([wrap64 ((wrap64 ((gt a353 (wrap64 ((a353.length : Int) - 1))) + 1)) + t376.1)] : List Int), box b0 76 [p0_0, .int .i64 t376.2], box b252 34 [v352, .int .i64 0, .int .i64 0], own kInt 2 v352 a353, box b237 34 [.slice none 0 0, .int .i64 0, .int .i64 0]]) ?_ (fun K404 => ?_)
    ·rintro v384 w405 HM
     replace HM : Mem w X w405 [own kInt 2 v384 ([wrap64 ((wrap64 ((gt a353 (wrap64 ((a353.length : Int) - 1))) + 1)) + t376.1)] : List Int), box b0 76 [p0_0, .int .i64 t376.2], box b252 34 [v352, .int .i64 0, .int .i64 0], own kInt 2 v352 a353, box b237 34 [.slice none 0 0, .int .i64 0, .int .i64 0]] := HM
     have hS := Mem.suf (M := [own kInt 2 v384 ([wrap64 ((wrap64 ((gt a353 (wrap64 ((a353.length : Int) - 1))) + 1)) + t376.1)] : List Int), box b0 76 [p0_0, .int .i64 t376.2], box b252 34 [v352, .int .i64 0, .int .i64 0], own kInt 2 v352 a353]) HM
     replace HM := HM.front 3 rfl rfl
     refine drw_any [15] (by kernel_rfl) rfl (.cons ?_ .nil)
     refine br_does (l' := (bs 18 65535)) rfl (guard_none rfl) rfl rfl (by kernel_rfl) (does_appendR kInt flat_plain rfl rfl rfl Try.underlying32 tsz2 rfl tby2 tz2 rfl rfl (leB_le e387) (HM.own_rd 1 rfl) HM) ?_
     rintro v388 w406 HM
     have hS := Mem.suf (M := [own kInt 2 v388 (a353 ++ ([wrap64 ((wrap64 ((gt a353 (wrap64 ((a353.length : Int) - 1))) + 1)) + t376.1)] : List Int)), own kInt 2 v384 ([wrap64 ((wrap64 ((gt a353 (wrap64 ((a353.length : Int) - 1))) + 1)) + t376.1)] : List Int), box b0 76 [p0_0, .int .i64 t376.2], box b252 34 [v352, .int .i64 0, .int .i64 0]]) HM
     refine ⟨hS, ?_⟩
     refine dt 16 (bs 18 131071) rfl rfl rfl rfl (by kernel_rfl) (ex_fieldAddr (off' := 0) rfl rfl Try.underlying34 rfl tsz32 rfl) hS ?_
     replace HM := HM.front 3 rfl rfl
     refine drw_any [17] (by kernel_rfl) rfl (.cons ?_ .nil)
     refine br_doesS (l' := (bs 18 262143)) rfl (guard_none rfl) rfl (by kernel_rfl) (does_store (vs := [v388]) (cs' := [v388, .int .i64 0, .int .i64 0]) rfl rfl rfl (rd_cells (HM.own_rd 1 rfl)) tsz32 (Ones.rd (HM.own_rd 1 rfl) Ones.nil) rfl rfl HM) ?_
     rintro w407 HM
     have hS := Mem.suf (M := [box b252 34 [v388, .int .i64 0, .int .i64 0], own kInt 2 v388 (a353 ++ ([wrap64 ((wrap64 ((gt a353 (wrap64 ((a353.length : Int) - 1))) + 1)) + t376.1)] : List Int)), own kInt 2 v384 ([wrap64 ((wrap64 ((gt a353 (wrap64 ((a353.length : Int) - 1))) + 1)) + t376.1)] : List Int), box b0 76 [p0_0, .int .i64 t376.2]]) HM
     refine ⟨hS, ?_⟩
     refine drw_done (by kernel_rfl) ?_
     replace HM := (HM.front 2 rfl rfl).drop
     replace HM := HM.front 1 rfl rfl
     replace HM := HM.front 1 rfl rfl
     replace HM := HM.front 3 rfl rfl
     replace HM := HM.front 3 rfl rfl
     exact at_meet [(0, .pointer (some ⟨b0, 0, none⟩)), (2, .pointer (some ⟨b237, 0, none⟩)), (3, .pointer (some ⟨b252, 0, none⟩)), (4, .int .i64 a355)] ⟨_, rfl, HM⟩ (Sub.cons rfl (Sub.cons rfl (Sub.cons rfl (Sub.cons rfl Sub.nil))))
    refine drw_cut0 (l' := (bs 18 16383)) (f' := 4) ([(0, .pointer (some ⟨b0, 0, none⟩)), (2, .pointer (some ⟨b237, 0, none⟩)), (3, .pointer (some ⟨b252, 0, none⟩)), (4, .int .i64 a355), (17, v352), (29, .int .i64 (wrap64 ((wrap64 ((gt a353 (wrap64 ((a353.length : Int) - 1))) + 1)) + t376.1)))]) (fun w_ => Mem w X w_ [box b0 76 [p0_0, .int .i64 t376.2], box b252 34 [v352, .int .i64 0, .int .i64 0], own kInt 2 v352 a353, box b237 34 [.slice none 0 0, .int .i64 0, .int .i64 0]]) ?_ (fun K408 => ?_)
    ·rintro w409 HM
     replace HM : Mem w X w409 [box b0 76 [p0_0, .int .i64 t376.2], box b252 34 [v352, .int .i64 0, .int .i64 0], own kInt 2 v352 a353, box b237 34 [.slice none 0 0, .int .i64 0, .int .i64 0]] := HM
     have hS := Mem.suf (M := [box b0 76 [p0_0, .int .i64 t376.2], box b252 34 [v352, .int .i64 0, .int .i64 0], own kInt 2 v352 a353]) HM
     refine drw_any [14] (by kernel_rfl) rfl (.cons ?_ .nil)
     refine br_does (l' := (bs 18 32767)) rfl (guard_none rfl) rfl rfl (by kernel_rfl) (does_lit (e := 2) (cs := [.int .i64 (wrap64 ((wrap64 ((gt a353 (wrap64 ((a353.length : Int) - 1))) + 1)) + t376.1))]) (xs := ([wrap64 ((wrap64 ((gt a353 (wrap64 ((a353.length : Int) - 1))) + 1)) + t376.1)] : List Int)) kInt rfl rfl (fun _ => by kernel_rfl) rfl rfl (fun _ _ h => by have h' : _ = [] := h; subst h'; exact (Elems.cons (d := kInt) (x := wrap64 ((wrap64 ((gt a353 (wrap64 ((a353.length : Int) - 1))) + 1)) + t376.1)) (f := []) ⟨rfl, rfl⟩ .nil)) HM.emp) ?_
     rintro v384 w410 HM
     have hS := Mem.suf (M := [own kInt 2 v384 ([wrap64 ((wrap64 ((gt a353 (wrap64 ((a353.length : Int) - 1))) + 1)) + t376.1)] : List Int), box b0 76 [p0_0, .int .i64 t376.2], box b252 34 [v352, .int .i64 0, .int .i64 0], own kInt 2 v352 a353]) HM
     refine ⟨hS, ?_⟩
     exact drw_sub (K404 v384 _ HM) (Sub.cons rfl (Sub.cons rfl (Sub.cons rfl (Sub.cons rfl (Sub.cons rfl (Sub.cons rfl Sub.nil))))))
    refine drw_cut0 (l' := (bs 18 8191)) (f' := 5) ([(0, .pointer (some ⟨b0, 0, none⟩)), (2, .pointer (some ⟨b237, 0, none⟩)), (3, .pointer (some ⟨b252, 0, none⟩)), (4, .int .i64 a355), (17, v352), (26, .int .i64 (wrap64 ((gt a353 (wrap64 ((a353.length : Int) - 1))) + 1))), (28, .int .i64 t376.1)]) (fun w_ => Mem w X w_ [box b0 76 [p0_0, .int .i64 t376.2], box b252 34 [v352, .int .i64 0, .int .i64 0], own kInt 2 v352 a353, box b237 34 [.slice none 0 0, .int .i64 0, .int .i64 0]]) ?_ (fun K411 => ?_)
    ·rintro w412 HM
     replace HM : Mem w X w412 [box b0 76 [p0_0, .int .i64 t376.2], box b252 34 [v352, .int .i64 0, .int .i64 0], own kInt 2 v352 a353, box b237 34 [.slice none 0 0, .int .i64 0, .int .i64 0]] := HM
     have hS := Mem.suf (M := [box b0 76 [p0_0, .int .i64 t376.2], box b252 34 [v352, .int .i64 0, .int .i64 0], own kInt 2 v352 a353]) HM
     refine dt 13 (bs 18 16383) rfl rfl rfl rfl (by kernel_rfl) (ex_add rfl rfl rfl) hS ?_
     exact drw_sub (K408 _ HM) (Sub.cons rfl (Sub.cons rfl (Sub.cons rfl (Sub.cons rfl (Sub.cons rfl (Sub.cons rfl Sub.nil))))))
    refine drw_cut0 (l' := (bs 18 4095)) (f' := 6) ([(0, .pointer (some ⟨b0, 0, none⟩)), (2, .pointer (some ⟨b237, 0, none⟩)), (3, .pointer (some ⟨b252, 0, none⟩)), (4, .int .i64 a355), (27, .pointer (some ⟨b0, 0, none⟩)), (17, v352), (26, .int .i64 (wrap64 ((gt a353 (wrap64 ((a353.length : Int) - 1))) + 1)))]) (fun w_ => Mem w X w_ [box b0 76 [p0_0, .int .i64 a351], box b252 34 [v352, .int .i64 0, .int .i64 0], own kInt 2 v352 a353, box b237 34 [.slice none 0 0, .int .i64 0, .int .i64 0]]) ?_ (fun K413 => ?_)
    ·rintro w414 HM
     replace HM : Mem w X w414 [box b0 76 [p0_0, .int .i64 a351], box b252 34 [v352, .int .i64 0, .int .i64 0], own kInt 2 v352 a353, box b237 34 [.slice none 0 0, .int .i64 0, .int .i64 0]] := HM
     have hS := Mem.suf (M := [box b0 76 [p0_0, .int .i64 a351], box b252 34 [v352, .int .i64 0, .int .i64 0], own kInt 2 v352 a353]) HM
     obtain ⟨F378, hF379, hFn380, hFl381, HMh382, hcl383⟩ := HM.hide (Ms := [box b0 76 [p0_0, .int .i64 a351]])
     refine drw_any [12] (by kernel_rfl) rfl (.cons ?_ .nil)
     refine br_does (l' := (bs 18 8191)) rfl (guard_none rfl) rfl rfl (by kernel_rfl) (does_callk rfl callok18 rfl (spec_l1Next.calls (x0 := (⟨x0.fCode, a351⟩ : l1Src)) (x1 := 2) (hide_olds _ _) hF379 hFn380 hFl381 (HMh382.rdo hwo hp0_0) h377)) ?_
     rintro _ w415 ⟨rfl, hn⟩
     replace HM : Mem w X w415 [box b0 76 [p0_0, .int .i64 t376.2], box b252 34 [v352, .int .i64 0, .int .i64 0], own kInt 2 v352 a353, box b237 34 [.slice none 0 0, .int .i64 0, .int .i64 0]] := hcl383 _ _ hn
     have hS := Mem.suf (M := [box b0 76 [p0_0, .int .i64 t376.2], box b252 34 [v352, .int .i64 0, .int .i64 0], own kInt 2 v352 a353]) HM
     refine ⟨hS, ?_⟩
     exact drw_sub (K411 _ HM) (Sub.cons rfl (Sub.cons rfl (Sub.cons rfl (Sub.cons rfl (Sub.cons rfl (Sub.cons rfl (Sub.cons rfl Sub.nil)))))))
    refine drw_cut0 (l' := (bs 18 8189)) (f' := 6) ([(0, .pointer (some ⟨b0, 0, none⟩)), (2, .pointer (some ⟨b237, 0, none⟩)), (3, .pointer (some ⟨b252, 0, none⟩)), (4, .int .i64 a355), (16, .pointer (some ⟨b252, 0, none⟩)), (26, .int .i64 (wrap64 ((gt a353 (wrap64 ((a353.length : Int) - 1))) + 1))), (28, .int .i64 t376.1)]) (fun w_ => Mem w X w_ [box b0 76 [p0_0, .int .i64 t376.2], box b252 34 [v352, .int .i64 0, .int .i64 0], own kInt 2 v352 a353, box b237 34 [.slice none 0 0, .int .i64 0, .int .i64 0]]) ?_ (fun K416 => ?_)
    ·rintro w417 HM
     replace HM : Mem w X w417 [box b0 76 [p0_0, .int .i64 t376.2], box b252 34 [v352, .int .i64 0, .int .i64 0], own kInt 2 v352 a353, box b237 34 [.slice none 0 0, .int .i64 0, .int .i64 0]] := HM
     have hS := Mem.suf (M := [box b0 76 [p0_0, .int .i64 t376.2], box b252 34 [v352, .int .i64 0, .int .i64 0], own kInt 2 v352 a353]) HM
     refine dt 13 (bs 18 16381) rfl rfl rfl rfl (by kernel_rfl) (ex_add rfl rfl rfl) hS ?_
     refine drw_any [1, 14] (by kernel_rfl) rfl (.cons ?_ (.cons ?_ .nil))
     ·skip
      refine br_does (l' := (bs 18 16383)) rfl (guard_none rfl) rfl rfl (by kernel_rfl) (does_ex' (ex_load1 rfl rfl Try.underlying32 rfl ((HM.box_at 1 rfl) 0 _ rfl))) ?_
      rintro _ _ ⟨rfl, rfl⟩
      refine ⟨hS, ?_⟩
      exact drw_sub (K408 _ HM) (Sub.cons rfl (Sub.cons rfl (Sub.cons rfl (Sub.cons rfl (Sub.cons rfl (Sub.cons rfl Sub.nil))))))
     ·skip
      refine br_does (l' := (bs 18 32765)) rfl (guard_none rfl) rfl rfl (by kernel_rfl) (does_lit (e := 2) (cs := [.int .i64 (wrap64 ((wrap64 ((gt a353 (wrap64 ((a353.length : Int) - 1))) + 1)) + t376.1))]) (xs := ([wrap64 ((wrap64 ((gt a353 (wrap64 ((a353.length : Int) - 1))) + 1)) + t376.1)] : List Int)) kInt rfl rfl (fun _ => by kernel_rfl) rfl rfl (fun _ _ h => by have h' : _ = [] := h; subst h'; exact (Elems.cons (d := kInt) (x := wrap64 ((wrap64 ((gt a353 (wrap64 ((a353.length : Int) - 1))) + 1)) + t376.1)) (f := []) ⟨rfl, rfl⟩ .nil)) HM.emp) ?_
      rintro v384 w418 HM
      have hS := Mem.suf (M := [own kInt 2 v384 ([wrap64 ((wrap64 ((gt a353 (wrap64 ((a353.length : Int) - 1))) + 1)) + t376.1)] : List Int), box b0 76 [p0_0, .int .i64 t376.2], box b252 34 [v352, .int .i64 0, .int .i64 0], own kInt 2 v352 a353]) HM
      refine ⟨hS, ?_⟩
      refine drw_any [1] (by kernel_rfl) rfl (.cons ?_ .nil)
      refine br_does (l' := (bs 18 32767)) rfl (guard_none rfl) rfl rfl (by kernel_rfl) (does_ex' (ex_load1 rfl rfl Try.underlying32 rfl ((HM.box_at 2 rfl) 0 _ rfl))) ?_
      rintro _ _ ⟨rfl, rfl⟩
      refine ⟨hS, ?_⟩
      exact drw_sub (K404 v384 _ HM) (Sub.cons rfl (Sub.cons rfl (Sub.cons rfl (Sub.cons rfl (Sub.cons rfl (Sub.cons rfl Sub.nil))))))
    refine drw_cut0 (l' := (bs 18 6655)) (f' := 7) ([(0, .pointer (some ⟨b0, 0, none⟩)), (2, .pointer (some ⟨b237, 0, none⟩)), (3, .pointer (some ⟨b252, 0, none⟩)), (4, .int .i64 a355), (17, v352), (24, .pointer (some ⟨sb v352, so v352 + (wrap64 ((a353.length : Int) - 1)).toNat * 1, none⟩)), (28, .int .i64 t376.1)]) (fun w_ => Mem w X w_ [box b0 76 [p0_0, .int .i64 t376.2], box b252 34 [v352, .int .i64 0, .int .i64 0], own kInt 2 v352 a353, box b237 34 [.slice none 0 0, .int .i64 0, .int .i64 0]]) ?_ (fun K419 => ?_)
    ·rintro w420 HM
     replace HM : Mem w X w420 [box b0 76 [p0_0, .int .i64 t376.2], box b252 34 [v352, .int .i64 0, .int .i64 0], own kInt 2 v352 a353, box b237 34 [.slice none 0 0, .int .i64 0, .int .i64 0]] := HM
     have hS := Mem.suf (M := [box b0 76 [p0_0, .int .i64 t376.2], box b252 34 [v352, .int .i64 0, .int .i64 0], own kInt 2 v352 a353]) HM
     refine drw_any [9] (by kernel_rfl) rfl (.cons ?_ .nil)
     refine br_does (l' := (bs 18 7167)) rfl (guard_none rfl) rfl rfl (by kernel_rfl) (does_ex' (ex_load1 rfl rfl Try.underlying2 rfl ((rd_plain (HM.own_rd 2 rfl) e375) 0 _ rfl))) ?_
     rintro _ _ ⟨rfl, rfl⟩
     refine ⟨hS, ?_⟩
     refine dt 10 (bs 18 8191) rfl rfl rfl rfl (by kernel_rfl) (ex_add rfl rfl rfl) hS ?_
     exact drw_sub (K411 _ HM) (Sub.cons rfl (Sub.cons rfl (Sub.cons rfl (Sub.cons rfl (Sub.cons rfl (Sub.cons rfl (Sub.cons rfl Sub.nil)))))))
    refine drw_cut0 (l' := (bs 18 2559)) (f' := 8) ([(0, .pointer (some ⟨b0, 0, none⟩)), (2, .pointer (some ⟨b237, 0, none⟩)), (3, .pointer (some ⟨b252, 0, none⟩)), (4, .int .i64 a355), (27, .pointer (some ⟨b0, 0, none⟩)), (17, v352), (24, .pointer (some ⟨sb v352, so v352 + (wrap64 ((a353.length : Int) - 1)).toNat * 1, none⟩))]) (fun w_ => Mem w X w_ [box b0 76 [p0_0, .int .i64 a351], box b252 34 [v352, .int .i64 0, .int .i64 0], own kInt 2 v352 a353, box b237 34 [.slice none 0 0, .int .i64 0, .int .i64 0]]) ?_ (fun K421 => ?_)
    ·rintro w422 HM
     replace HM : Mem w X w422 [box b0 76 [p0_0, .int .i64 a351], box b252 34 [v352, .int .i64 0, .int .i64 0], own kInt 2 v352 a353, box b237 34 [.slice none 0 0, .int .i64 0, .int .i64 0]] := HM
     have hS := Mem.suf (M := [box b0 76 [p0_0, .int .i64 a351], box b252 34 [v352, .int .i64 0, .int .i64 0], own kInt 2 v352 a353]) HM
     refine drw_any [9, 12] (by kernel_rfl) rfl (.cons ?_ (.cons ?_ .nil))
     ·skip
      refine br_does (l' := (bs 18 3071)) rfl (guard_none rfl) rfl rfl (by kernel_rfl) (does_ex' (ex_load1 rfl rfl Try.underlying2 rfl ((rd_plain (HM.own_rd 2 rfl) e375) 0 _ rfl))) ?_
      rintro _ _ ⟨rfl, rfl⟩
      refine ⟨hS, ?_⟩
      refine dt 10 (bs 18 4095) rfl rfl rfl rfl (by kernel_rfl) (ex_add rfl rfl rfl) hS ?_
      exact drw_sub (K413 _ HM) (Sub.cons rfl (Sub.cons rfl (Sub.cons rfl (Sub.cons rfl (Sub.cons rfl (Sub.cons rfl (Sub.cons rfl Sub.nil)))))))
     ·skip
      obtain ⟨F378, hF379, hFn380, hFl381, HMh382, hcl383⟩ := HM.hide (Ms := [box b0 76 [p0_0, .int .i64 a351]])
      refine br_does (l' := (bs 18 6655)) rfl (guard_none rfl) rfl rfl (by kernel_rfl) (does_callk rfl callok18 rfl (spec_l1Next.calls (x0 := (⟨x0.fCode, a351⟩ : l1Src)) (x1 := 2) (hide_olds _ _) hF379 hFn380 hFl381 (HMh382.rdo hwo hp0_0) h377)) ?_
      rintro _ w423 ⟨rfl, hn⟩
      replace HM : Mem w X w423 [box b0 76 [p0_0, .int .i64 t376.2], box b252 34 [v352, .int .i64 0, .int .i64 0], own kInt 2 v352 a353, box b237 34 [.slice none 0 0, .int .i64 0, .int .i64 0]] := hcl383 _ _ hn
      have hS := Mem.suf (M := [box b0 76 [p0_0, .int .i64 t376.2], box b252 34 [v352, .int .i64 0, .int .i64 0], own kInt 2 v352 a353]) HM
      refine ⟨hS, ?_⟩
      exact drw_sub (K419 _ HM) (Sub.cons rfl (Sub.cons rfl (Sub.cons rfl (Sub.cons rfl (Sub.cons rfl (Sub.cons rfl (Sub.cons rfl Sub.nil)))))))
    refine drw_cut0 (l' := (bs 18 6399)) (f' := 8) ([(0, .pointer (some ⟨b0, 0, none⟩)), (2, .pointer (some ⟨b237, 0, none⟩)), (3, .pointer (some ⟨b252, 0, none⟩)), (4, .int .i64 a355), (17, v352), (19, v352), (28, .int .i64 t376.1), (23, .int .i64 (wrap64 ((a353.length : Int) - 1)))]) (fun w_ => Mem w X w_ [box b0 76 [p0_0, .int .i64 t376.2], box b252 34 [v352, .int .i64 0, .int .i64 0], own kInt 2 v352 a353, box b237 34 [.slice none 0 0, .int .i64 0, .int .i64 0]]) ?_ (fun K424 => ?_)
    ·rintro w425 HM
     replace HM : Mem w X w425 [box b0 76 [p0_0, .int .i64 t376.2], box b252 34 [v352, .int .i64 0, .int .i64 0], own kInt 2 v352 a353, box b237 34 [.slice none 0 0, .int .i64 0, .int .i64 0]] := HM
     have hS := Mem.suf (M := [box b0 76 [p0_0, .int .i64 t376.2], box b252 34 [v352, .int .i64 0, .int .i64 0], own kInt 2 v352 a353]) HM
     refine dt 8 (bs 18 6655) rfl rfl rfl rfl (by kernel_rfl) (ex_indexAddr (d := kInt) rfl rfl rfl Try.underlying32 tsz2 (HM.own_rd 2 rfl) (idx_lo e375) (idx_hi e375)) hS ?_
     exact drw_sub (K419 _ HM) (Sub.cons rfl (Sub.cons rfl (Sub.cons rfl (Sub.cons rfl (Sub.cons rfl (Sub.cons rfl (Sub.cons rfl Sub.nil)))))))
    refine drw_cut0 (l' := (bs 18 6653)) (f' := 8) ([(0, .pointer (some ⟨b0, 0, none⟩)), (2, .pointer (some ⟨b237, 0, none⟩)), (3, .pointer (some ⟨b252, 0, none⟩)), (4, .int .i64 a355), (16, .pointer (some ⟨b252, 0, none⟩)), (24, .pointer (some ⟨sb v352, so v352 + (wrap64 ((a353.length : Int) - 1)).toNat * 1, none⟩)), (28, .int .i64 t376.1)]) (fun w_ => Mem w X w_ [box b0 76 [p0_0, .int .i64 t376.2], box b252 34 [v352, .int .i64 0, .int .i64 0], own kInt 2 v352 a353, box b237 34 [.slice none 0 0, .int .i64 0, .int .i64 0]]) ?_ (fun K426 => ?_)
    ·rintro w427 HM
     replace HM : Mem w X w427 [box b0 76 [p0_0, .int .i64 t376.2], box b252 34 [v352, .int .i64 0, .int .i64 0], own kInt 2 v352 a353, box b237 34 [.slice none 0 0, .int .i64 0, .int .i64 0]] := HM
     have hS := Mem.suf (M := [box b0 76 [p0_0, .int .i64 t376.2], box b252 34 [v352, .int .i64 0, .int .i64 0], own kInt 2 v352 a353]) HM
     refine drw_any [1, 9] (by kernel_rfl) rfl (.cons ?_ (.cons ?_ .nil))
     ·skip
      refine br_does (l' := (bs 18 6655)) rfl (guard_none rfl) rfl rfl (by kernel_rfl) (does_ex' (ex_load1 rfl rfl Try.underlying32 rfl ((HM.box_at 1 rfl) 0 _ rfl))) ?_
      rintro _ _ ⟨rfl, rfl⟩
      refine ⟨hS, ?_⟩
      exact drw_sub (K419 _ HM) (Sub.cons rfl (Sub.cons rfl (Sub.cons rfl (Sub.cons rfl (Sub.cons rfl (Sub.cons rfl (Sub.cons rfl Sub.nil)))))))
     ·skip
      refine br_does (l' := (bs 18 7165)) rfl (guard_none rfl) rfl rfl (by kernel_rfl) (does_ex' (ex_load1 rfl rfl Try.underlying2 rfl ((rd_plain (HM.own_rd 2 rfl) e375) 0 _ rfl))) ?_
      rintro _ _ ⟨rfl, rfl⟩
      refine ⟨hS, ?_⟩
      refine dt 10 (bs 18 8189) rfl rfl rfl rfl (by kernel_rfl) (ex_add rfl rfl rfl) hS ?_
      exact drw_sub (K416 _ HM) (Sub.cons rfl (Sub.cons rfl (Sub.cons rfl (Sub.cons rfl (Sub.cons rfl (Sub.cons rfl (Sub.cons rfl Sub.nil)))))))
    refine drw_cut0 (l' := (bs 18 2303)) (f' := 9) ([(0, .pointer (some ⟨b0, 0, none⟩)), (2, .pointer (some ⟨b237, 0, none⟩)), (3, .pointer (some ⟨b252, 0, none⟩)), (4, .int .i64 a355), (27, .pointer (some ⟨b0, 0, none⟩)), (17, v352), (19, v352), (23, .int .i64 (wrap64 ((a353.length : Int) - 1)))]) (fun w_ => Mem w X w_ [box b0 76 [p0_0, .int .i64 a351], box b252 34 [v352, .int .i64 0, .int .i64 0], own kInt 2 v352 a353, box b237 34 [.slice none 0 0, .int .i64 0, .int .i64 0]]) ?_ (fun K428 => ?_)
    ·rintro w429 HM
     replace HM : Mem w X w429 [box b0 76 [p0_0, .int .i64 a351], box b252 34 [v352, .int .i64 0, .int .i64 0], own kInt 2 v352 a353, box b237 34 [.slice none 0 0, .int .i64 0, .int .i64 0]] := HM
     have hS := Mem.suf (M := [box b0 76 [p0_0, .int .i64 a351], box b252 34 [v352, .int .i64 0, .int .i64 0], own kInt 2 v352 a353]) HM
     refine dt 8 (bs 18 2559) rfl rfl rfl rfl (by kernel_rfl) (ex_indexAddr (d := kInt) rfl rfl rfl Try.underlying32 tsz2 (HM.own_rd 2 rfl) (idx_lo e375) (idx_hi e375)) hS ?_
     exact drw_sub (K421 _ HM) (Sub.cons rfl (Sub.cons rfl (Sub.cons rfl (Sub.cons rfl (Sub.cons rfl (Sub.cons rfl (Sub.cons rfl Sub.nil)))))))
    refine drw_cut0 (l' := (bs 18 6391)) (f' := 9) ([(0, .pointer (some ⟨b0, 0, none⟩)), (2, .pointer (some ⟨b237, 0, none⟩)), (3, .pointer (some ⟨b252, 0, none⟩)), (4, .int .i64 a355), (18, .pointer (some ⟨b252, 0, none⟩)), (17, v352), (23, .int .i64 (wrap64 ((a353.length : Int) - 1))), (28, .int .i64 t376.1)]) (fun w_ => Mem w X w_ [box b0 76 [p0_0, .int .i64 t376.2], box b252 34 [v352, .int .i64 0, .int .i64 0], own kInt 2 v352 a353, box b237 34 [.slice none 0 0, .int .i64 0, .int .i64 0]]) ?_ (fun K430 => ?_)
    ·rintro w431 HM
     replace HM : Mem w X w431 [box b0 76 [p0_0, .int .i64 t376.2], box b252 34 [v352, .int .i64 0, .int .i64 0], own kInt 2 v352 a353, box b237 34 [.slice none 0 0, .int .i64 0, .int .i64 0]] := HM
     have hS := Mem.suf (M := [box b0 76 [p0_0, .int .i64 t376.2], box b252 34 [v352, .int .i64 0, .int .i64 0], own kInt 2 v352 a353]) HM
     refine drw_any [3] (by kernel_rfl) rfl (.cons ?_ .nil)
     refine br_does (l' := (bs 18 6399)) rfl (guard_none rfl) rfl rfl (by kernel_rfl) (does_ex' (ex_load1 rfl rfl Try.underlying32 rfl ((HM.box_at 1 rfl) 0 _ rfl))) ?_
     rintro _ _ ⟨rfl, rfl⟩
     refine ⟨hS, ?_⟩
     exact drw_sub (K424 _ HM) (Sub.cons rfl (Sub.cons rfl (Sub.cons rfl (Sub.cons rfl (Sub.cons rfl (Sub.cons rfl (Sub.cons rfl (Sub.cons rfl Sub.nil))))))))
    refine drw_cut0 (l' := (bs 18 6397)) (f' := 9) ([(0, .pointer (some ⟨b0, 0, none⟩)), (2, .pointer (some ⟨b237, 0, none⟩)), (3, .pointer (some ⟨b252, 0, none⟩)), (4, .int .i64 a355), (16, .pointer (some ⟨b252, 0, none⟩)), (19, v352), (28, .int .i64 t376.1), (23, .int .i64 (wrap64 ((a353.length : Int) - 1)))]) (fun w_ => Mem w X w_ [box b0 76 [p0_0, .int .i64 t376.2], box b252 34 [v352, .int .i64 0, .int .i64 0], own kInt 2 v352 a353, box b237 34 [.slice none 0 0, .int .i64 0, .int .i64 0]]) ?_ (fun K432 => ?_)
    ·rintro w433 HM
     replace HM : Mem w X w433 [box b0 76 [p0_0, .int .i64 t376.2], box b252 34 [v352, .int .i64 0, .int .i64 0], own kInt 2 v352 a353, box b237 34 [.slice none 0 0, .int .i64 0, .int .i64 0]] := HM
     have hS := Mem.suf (M := [box b0 76 [p0_0, .int .i64 t376.2], box b252 34 [v352, .int .i64 0, .int .i64 0], own kInt 2 v352 a353]) HM
     refine dt 8 (bs 18 6653) rfl rfl rfl rfl (by kernel_rfl) (ex_indexAddr (d := kInt) rfl rfl rfl Try.underlying32 tsz2 (HM.own_rd 2 rfl) (idx_lo e375) (idx_hi e375)) hS ?_
     exact drw_sub (K426 _ HM) (Sub.cons rfl (Sub.cons rfl (Sub.cons rfl (Sub.cons rfl (Sub.cons rfl (Sub.cons rfl (Sub.cons rfl Sub.nil)))))))
    refine drw_cut0 (l' := (bs 18 2295)) (f' := 10) ([(0, .pointer (some ⟨b0, 0, none⟩)), (2, .pointer (some ⟨b237, 0, none⟩)), (3, .pointer (some ⟨b252, 0, none⟩)), (4, .int .i64 a355), (18, .pointer (some ⟨b252, 0, none⟩)), (27, .pointer (some ⟨b0, 0, none⟩)), (17, v352), (23, .int .i64 (wrap64 ((a353.length : Int) - 1)))]) (fun w_ => Mem w X w_ [box b0 76 [p0_0, .int .i64 a351], box b252 34 [v352, .int .i64 0, .int .i64 0], own kInt 2 v352 a353, box b237 34 [.slice none 0 0, .int .i64 0, .int .i64 0]]) ?_ (fun K434 => ?_)
    ·rintro w435 HM
     replace HM : Mem w X w435 [box b0 76 [p0_0, .int .i64 a351], box b252 34 [v352, .int .i64 0, .int .i64 0], own kInt 2 v352 a353, box b237 34 [.slice none 0 0, .int .i64 0, .int .i64 0]] := HM
     have hS := Mem.suf (M := [box b0 76 [p0_0, .int .i64 a351], box b252 34 [v352, .int .i64 0, .int .i64 0], own kInt 2 v352 a353]) HM
     refine drw_any [3, 12] (by kernel_rfl) rfl (.cons ?_ (.cons ?_ .nil))
     ·skip
      refine br_does (l' := (bs 18 2303)) rfl (guard_none rfl) rfl rfl (by kernel_rfl) (does_ex' (ex_load1 rfl rfl Try.underlying32 rfl ((HM.box_at 1 rfl) 0 _ rfl))) ?_
      rintro _ _ ⟨rfl, rfl⟩
      refine ⟨hS, ?_⟩
      exact drw_sub (K428 _ HM) (Sub.cons rfl (Sub.cons rfl (Sub.cons rfl (Sub.cons rfl (Sub.cons rfl (Sub.cons rfl (Sub.cons rfl (Sub.cons rfl Sub.nil))))))))
     ·skip
      obtain ⟨F378, hF379, hFn380, hFl381, HMh382, hcl383⟩ := HM.hide (Ms := [box b0 76 [p0_0, .int .i64 a351]])
      refine br_does (l' := (bs 18 6391)) rfl (guard_none rfl) rfl rfl (by kernel_rfl) (does_callk rfl callok18 rfl (spec_l1Next.calls (x0 := (⟨x0.fCode, a351⟩ : l1Src)) (x1 := 2) (hide_olds _ _) hF379 hFn380 hFl381 (HMh382.rdo hwo hp0_0) h377)) ?_
      rintro _ w436 ⟨rfl, hn⟩
      replace HM : Mem w X w436 [box b0 76 [p0_0, .int .i64 t376.2], box b252 34 [v352, .int .i64 0, .int .i64 0], own kInt 2 v352 a353, box b237 34 [.slice none 0 0, .int .i64 0, .int .i64 0]] := hcl383 _ _ hn
      have hS := Mem.suf (M := [box b0 76 [p0_0, .int .i64 t376.2], box b252 34 [v352, .int .i64 0, .int .i64 0], own kInt 2 v352 a353]) HM
      refine ⟨hS, ?_⟩
      exact drw_sub (K430 _ HM) (Sub.cons rfl (Sub.cons rfl (Sub.cons rfl (Sub.cons rfl (Sub.cons rfl (Sub.cons rfl (Sub.cons rfl (Sub.cons rfl Sub.nil))))))))
    refine drw_cut0 (l' := (bs 18 2301)) (f' := 10) ([(0, .pointer (some ⟨b0, 0, none⟩)), (2, .pointer (some ⟨b237, 0, none⟩)), (3, .pointer (some ⟨b252, 0, none⟩)), (4, .int .i64 a355), (16, .pointer (some ⟨b252, 0, none⟩)), (27, .pointer (some ⟨b0, 0, none⟩)), (19, v352), (23, .int .i64 (wrap64 ((a353.length : Int) - 1)))]) (fun w_ => Mem w X w_ [box b0 76 [p0_0, .int .i64 a351], box b252 34 [v352, .int .i64 0, .int .i64 0], own kInt 2 v352 a353, box b237 34 [.slice none 0 0, .int .i64 0, .int .i64 0]]) ?_ (fun K437 => ?_)
    ·rintro w438 HM
     replace HM : Mem w X w438 [box b0 76 [p0_0, .int .i64 a351], box b252 34 [v352, .int .i64 0, .int .i64 0], own kInt 2 v352 a353, box b237 34 [.slice none 0 0, .int .i64 0, .int .i64 0]] := HM
     have hS := Mem.suf (M := [box b0 76 [p0_0, .int .i64 a351], box b252 34 [v352, .int .i64 0, .int .i64 0], own kInt 2 v352 a353]) HM
     refine dt 8 (bs 18 2557) rfl rfl rfl rfl (by kernel_rfl) (ex_indexAddr (d := kInt) rfl rfl rfl Try.underlying32 tsz2 (HM.own_rd 2 rfl) (idx_lo e375) (idx_hi e375)) hS ?_
     refine drw_any [1, 9, 12] (by kernel_rfl) rfl (.cons ?_ (.cons ?_ (.cons ?_ .nil)))
     ·skip
      refine br_does (l' := (bs 18 2559)) rfl (guard_none rfl) rfl rfl (by kernel_rfl) (does_ex' (ex_load1 rfl rfl Try.underlying32 rfl ((HM.box_at 1 rfl) 0 _ rfl))) ?_
      rintro _ _ ⟨rfl, rfl⟩
      refine ⟨hS, ?_⟩
      exact drw_sub (K421 _ HM) (Sub.cons rfl (Sub.cons rfl (Sub.cons rfl (Sub.cons rfl (Sub.cons rfl (Sub.cons rfl (Sub.cons rfl Sub.nil)))))))
     ·skip
      refine br_does (l' := (bs 18 3069)) rfl (guard_none rfl) rfl rfl (by kernel_rfl) (does_ex' (ex_load1 rfl rfl Try.underlying2 rfl ((rd_plain (HM.own_rd 2 rfl) e375) 0 _ rfl))) ?_
      rintro _ _ ⟨rfl, rfl⟩
      refine ⟨hS, ?_⟩
      refine dt 10 (bs 18 4093) rfl rfl rfl rfl (by kernel_rfl) (ex_add rfl rfl rfl) hS ?_
      refine drw_any [1, 12] (by kernel_rfl) rfl (.cons ?_ (.cons ?_ .nil))
      ·skip
       refine br_does (l' := (bs 18 4095)) rfl (guard_none rfl) rfl rfl (by kernel_rfl) (does_ex' (ex_load1 rfl rfl Try.underlying32 rfl ((HM.box_at 1 rfl) 0 _ rfl))) ?_
       rintro _ _ ⟨rfl, rfl⟩
       refine ⟨hS, ?_⟩
       exact drw_sub (K413 _ HM) (Sub.cons rfl (Sub.cons rfl (Sub.cons rfl (Sub.cons rfl (Sub.cons rfl (Sub.cons rfl (Sub.cons rfl Sub.nil)))))))
      ·skip
       obtain ⟨F378, hF379, hFn380, hFl381, HMh382, hcl383⟩ := HM.hide (Ms := [box b0 76 [p0_0, .int .i64 a351]])
       refine br_does (l' := (bs 18 8189)) rfl (guard_none rfl) rfl rfl (by kernel_rfl) (does_callk rfl callok18 rfl (spec_l1Next.calls (x0 := (⟨x0.fCode, a351⟩ : l1Src)) (x1 := 2) (hide_olds _ _) hF379 hFn380 hFl381 (HMh382.rdo hwo hp0_0) h377)) ?_
       rintro _ w439 ⟨rfl, hn⟩
       replace HM : Mem w X w439 [box b0 76 [p0_0, .int .i64 t376.2], box b252 34 [v352, .int .i64 0, .int .i64 0], own kInt 2 v352 a353, box b237 34 [.slice none 0 0, .int .i64 0, .int .i64 0]] := hcl383 _ _ hn
       have hS := Mem.suf (M := [box b0 76 [p0_0, .int .i64 t376.2], box b252 34 [v352, .int .i64 0, .int .i64 0], own kInt 2 v352 a353]) HM
       refine ⟨hS, ?_⟩
       exact drw_sub (K416 _ HM) (Sub.cons rfl (Sub.cons rfl (Sub.cons rfl (Sub.cons rfl (Sub.cons rfl (Sub.cons rfl (Sub.cons rfl Sub.nil)))))))
     ·skip
      obtain ⟨F378, hF379, hFn380, hFl381, HMh382, hcl383⟩ := HM.hide (Ms := [box b0 76 [p0_0, .int .i64 a351]])
      refine br_does (l' := (bs 18 6653)) rfl (guard_none rfl) rfl rfl (by kernel_rfl) (does_callk rfl callok18 rfl (spec_l1Next.calls (x0 := (⟨x0.fCode, a351⟩ : l1Src)) (x1 := 2) (hide_olds _ _) hF379 hFn380 hFl381 (HMh382.rdo hwo hp0_0) h377)) ?_
      rintro _ w440 ⟨rfl, hn⟩
      replace HM : Mem w X w440 [box b0 76 [p0_0, .int .i64 t376.2], box b252 34 [v352, .int .i64 0, .int .i64 0], own kInt 2 v352 a353, box b237 34 [.slice none 0 0, .int .i64 0, .int .i64 0]] := hcl383 _ _ hn
      have hS := Mem.suf (M := [box b0 76 [p0_0, .int .i64 t376.2], box b252 34 [v352, .int .i64 0, .int .i64 0], own kInt 2 v352 a353]) HM
      refine ⟨hS, ?_⟩
      exact drw_sub (K426 _ HM) (Sub.cons rfl (Sub.cons rfl (Sub.cons rfl (Sub.cons rfl (Sub.cons rfl (Sub.cons rfl (Sub.cons rfl Sub.nil)))))))
    refine drw_cut0 (l' := (bs 18 6389)) (f' := 10) ([(0, .pointer (some ⟨b0, 0, none⟩)), (2, .pointer (some ⟨b237, 0, none⟩)), (3, .pointer (some ⟨b252, 0, none⟩)), (4, .int .i64 a355), (16, .pointer (some ⟨b252, 0, none⟩)), (18, .pointer (some ⟨b252, 0, none⟩)), (23, .int .i64 (wrap64 ((a353.length : Int) - 1))), (28, .int .i64 t376.1)]) (fun w_ => Mem w X w_ [box b0 76 [p0_0, .int .i64 t376.2], box b252 34 [v352, .int .i64 0, .int .i64 0], own kInt 2 v352 a353, box b237 34 [.slice none 0 0, .int .i64 0, .int .i64 0]]) ?_ (fun K441 => ?_)
    ·rintro w442 HM
     replace HM : Mem w X w442 [box b0 76 [p0_0, .int .i64 t376.2], box b252 34 [v352, .int .i64 0, .int .i64 0], own kInt 2 v352 a353, box b237 34 [.slice none 0 0, .int .i64 0, .int .i64 0]] := HM
     have hS := Mem.suf (M := [box b0 76 [p0_0, .int .i64 t376.2], box b252 34 [v352, .int .i64 0, .int .i64 0], own kInt 2 v352 a353]) HM
     refine drw_any [1, 3] (by kernel_rfl) rfl (.cons ?_ (.cons ?_ .nil))
     ·skip
      refine br_does (l' := (bs 18 6391)) rfl (guard_none rfl) rfl rfl (by kernel_rfl) (does_ex' (ex_load1 rfl rfl Try.underlying32 rfl ((HM.box_at 1 rfl) 0 _ rfl))) ?_
      rintro _ _ ⟨rfl, rfl⟩
      refine ⟨hS, ?_⟩
      exact drw_sub (K430 _ HM) (Sub.cons rfl (Sub.cons rfl (Sub.cons rfl (Sub.cons rfl (Sub.cons rfl (Sub.cons rfl (Sub.cons rfl (Sub.cons rfl Sub.nil))))))))
     ·skip
      refine br_does (l' := (bs 18 6397)) rfl (guard_none rfl) rfl rfl (by kernel_rfl) (does_ex' (ex_load1 rfl rfl Try.underlying32 rfl ((HM.box_at 1 rfl) 0 _ rfl))) ?_
      rintro _ _ ⟨rfl, rfl⟩
      refine ⟨hS, ?_⟩
      exact drw_sub (K432 _ HM) (Sub.cons rfl (Sub.cons rfl (Sub.cons rfl (Sub.cons rfl (Sub.cons rfl (Sub.cons rfl (Sub.cons rfl (Sub.cons rfl Sub.nil))))))))
    refine drw_cut0 (l' := (bs 18 6175)) (f' := 11) ([(0, .pointer (some ⟨b0, 0, none⟩)), (2, .pointer (some ⟨b237, 0, none⟩)), (3, .pointer (some ⟨b252, 0, none⟩)), (4, .int .i64 a355), (20, .pointer (some ⟨b252, 0, none⟩)), (17, v352), (19, v352), (28, .int .i64 t376.1)]) (fun w_ => Mem w X w_ [box b0 76 [p0_0, .int .i64 t376.2], box b252 34 [v352, .int .i64 0, .int .i64 0], own kInt 2 v352 a353, box b237 34 [.slice none 0 0, .int .i64 0, .int .i64 0]]) ?_ (fun K443 => ?_)
    ·rintro w444 HM
     replace HM : Mem w X w444 [box b0 76 [p0_0, .int .i64 t376.2], box b252 34 [v352, .int .i64 0, .int .i64 0], own kInt 2 v352 a353, box b237 34 [.slice none 0 0, .int .i64 0, .int .i64 0]] := HM
     have hS := Mem.suf (M := [box b0 76 [p0_0, .int .i64 t376.2], box b252 34 [v352, .int .i64 0, .int .i64 0], own kInt 2 v352 a353]) HM
     refine drw_any [5] (by kernel_rfl) rfl (.cons ?_ .nil)
     refine br_does (l' := (bs 18 6207)) rfl (guard_none rfl) rfl rfl (by kernel_rfl) (does_ex' (ex_load1 rfl rfl Try.underlying32 rfl ((HM.box_at 1 rfl) 0 _ rfl))) ?_
     rintro _ _ ⟨rfl, rfl⟩
     refine ⟨hS, ?_⟩
     refine dt 6 (bs 18 6271) rfl rfl rfl rfl (by kernel_rfl) (ex_len (d := kInt) (xs := a353) rfl rfl Try.underlying32 (HM.own_rd 2 rfl)) hS ?_
     refine dt 7 (bs 18 6399) rfl rfl rfl rfl (by kernel_rfl) (ex_sub rfl rfl rfl) hS ?_
     exact drw_sub (K424 _ HM) (Sub.cons rfl (Sub.cons rfl (Sub.cons rfl (Sub.cons rfl (Sub.cons rfl (Sub.cons rfl (Sub.cons rfl (Sub.cons rfl Sub.nil))))))))
    refine drw_cut0 (l' := (bs 18 2079)) (f' := 12) ([(0, .pointer (some ⟨b0, 0, none⟩)), (2, .pointer (some ⟨b237, 0, none⟩)), (3, .pointer (some ⟨b252, 0, none⟩)), (4, .int .i64 a355), (20, .pointer (some ⟨b252, 0, none⟩)), (27, .pointer (some ⟨b0, 0, none⟩)), (17, v352), (19, v352)]) (fun w_ => Mem w X w_ [box b0 76 [p0_0, .int .i64 a351], box b252 34 [v352, .int .i64 0, .int .i64 0], own kInt 2 v352 a353, box b237 34 [.slice none 0 0, .int .i64 0, .int .i64 0]]) ?_ (fun K445 => ?_)
    ·rintro w446 HM
     replace HM : Mem w X w446 [box b0 76 [p0_0, .int .i64 a351], box b252 34 [v352, .int .i64 0, .int .i64 0], own kInt 2 v352 a353, box b237 34 [.slice none 0 0, .int .i64 0, .int .i64 0]] := HM
     have hS := Mem.suf (M := [box b0 76 [p0_0, .int .i64 a351], box b252 34 [v352, .int .i64 0, .int .i64 0], own kInt 2 v352 a353]) HM
     refine drw_any [5, 12] (by kernel_rfl) rfl (.cons ?_ (.cons ?_ .nil))
     ·skip
      refine br_does (l' := (bs 18 2111)) rfl (guard_none rfl) rfl rfl (by kernel_rfl) (does_ex' (ex_load1 rfl rfl Try.underlying32 rfl ((HM.box_at 1 rfl) 0 _ rfl))) ?_
      rintro _ _ ⟨rfl, rfl⟩
      refine ⟨hS, ?_⟩
      refine dt 6 (bs 18 2175) rfl rfl rfl rfl (by kernel_rfl) (ex_len (d := kInt) (xs := a353) rfl rfl Try.underlying32 (HM.own_rd 2 rfl)) hS ?_
      refine dt 7 (bs 18 2303) rfl rfl rfl rfl (by kernel_rfl) (ex_sub rfl rfl rfl) hS ?_
      exact drw_sub (K428 _ HM) (Sub.cons rfl (Sub.cons rfl (Sub.cons rfl (Sub.cons rfl (Sub.cons rfl (Sub.cons rfl (Sub.cons rfl (Sub.cons rfl Sub.nil))))))))
     ·skip
      obtain ⟨F378, hF379, hFn380, hFl381, HMh382, hcl383⟩ := HM.hide (Ms := [box b0 76 [p0_0, .int .i64 a351]])
      refine br_does (l' := (bs 18 6175)) rfl (guard_none rfl) rfl rfl (by kernel_rfl) (does_callk rfl callok18 rfl (spec_l1Next.calls (x0 := (⟨x0.fCode, a351⟩ : l1Src)) (x1 := 2) (hide_olds _ _) hF379 hFn380 hFl381 (HMh382.rdo hwo hp0_0) h377)) ?_
      rintro _ w447 ⟨rfl, hn⟩
      replace HM : Mem w X w447 [box b0 76 [p0_0, .int .i64 t376.2], box b252 34 [v352, .int .i64 0, .int .i64 0], own kInt 2 v352 a353, box b237 34 [.slice none 0 0, .int .i64 0, .int .i64 0]] := hcl383 _ _ hn
      have hS := Mem.suf (M := [box b0 76 [p0_0, .int .i64 t376.2], box b252 34 [v352, .int .i64 0, .int .i64 0], own kInt 2 v352 a353]) HM
      refine ⟨hS, ?_⟩
      exact drw_sub (K443 _ HM) (Sub.cons rfl (Sub.cons rfl (Sub.cons rfl (Sub.cons rfl (Sub.cons rfl (Sub.cons rfl (Sub.cons rfl (Sub.cons rfl Sub.nil))))))))
    refine drw_cut0 (l' := (bs 18 6167)) (f' := 12) ([(0, .pointer (some ⟨b0, 0, none⟩)), (2, .pointer (some ⟨b237, 0, none⟩)), (3, .pointer (some ⟨b252, 0, none⟩)), (4, .int .i64 a355), (18, .pointer (some ⟨b252, 0, none⟩)), (20, .pointer (some ⟨b252, 0, none⟩)), (17, v352), (28, .int .i64 t376.1)]) (fun w_ => Mem w X w_ [box b0 76 [p0_0, .int .i64 t376.2], box b252 34 [v352, .int .i64 0, .int .i64 0], own kInt 2 v352 a353, box b237 34 [.slice none 0 0, .int .i64 0, .int .i64 0]]) ?_ (fun K448 => ?_)
    ·rintro w449 HM
     replace HM : Mem w X w449 [box b0 76 [p0_0, .int .i64 t376.2], box b252 34 [v352, .int .i64 0, .int .i64 0], own kInt 2 v352 a353, box b237 34 [.slice none 0 0, .int .i64 0, .int .i64 0]] := HM
     have hS := Mem.suf (M := [box b0 76 [p0_0, .int .i64 t376.2], box b252 34 [v352, .int .i64 0, .int .i64 0], own kInt 2 v352 a353]) HM
     refine drw_any [3, 5] (by kernel_rfl) rfl (.cons ?_ (.cons ?_ .nil))
     ·skip
      refine br_does (l' := (bs 18 6175)) rfl (guard_none rfl) rfl rfl (by kernel_rfl) (does_ex' (ex_load1 rfl rfl Try.underlying32 rfl ((HM.box_at 1 rfl) 0 _ rfl))) ?_
      rintro _ _ ⟨rfl, rfl⟩
      refine ⟨hS, ?_⟩
      exact drw_sub (K443 _ HM) (Sub.cons rfl (Sub.cons rfl (Sub.cons rfl (Sub.cons rfl (Sub.cons rfl (Sub.cons rfl (Sub.cons rfl (Sub.cons rfl Sub.nil))))))))
     ·skip
      refine br_does (l' := (bs 18 6199)) rfl (guard_none rfl) rfl rfl (by kernel_rfl) (does_ex' (ex_load1 rfl rfl Try.underlying32 rfl ((HM.box_at 1 rfl) 0 _ rfl))) ?_
      rintro _ _ ⟨rfl, rfl⟩
      refine ⟨hS, ?_⟩
      refine dt 6 (bs 18 6263) rfl rfl rfl rfl (by kernel_rfl) (ex_len (d := kInt) (xs := a353) rfl rfl Try.underlying32 (HM.own_rd 2 rfl)) hS ?_
      refine dt 7 (bs 18 6391) rfl rfl rfl rfl (by kernel_rfl) (ex_sub rfl rfl rfl) hS ?_
      exact drw_sub (K430 _ HM) (Sub.cons rfl (Sub.cons rfl (Sub.cons rfl (Sub.cons rfl (Sub.cons rfl (Sub.cons rfl (Sub.cons rfl (Sub.cons rfl Sub.nil))))))))
    refine drw_cut0 (l' := (bs 18 6173)) (f' := 12) ([(0, .pointer (some ⟨b0, 0, none⟩)), (2, .pointer (some ⟨b237, 0, none⟩)), (3, .pointer (some ⟨b252, 0, none⟩)), (4, .int .i64 a355), (16, .pointer (some ⟨b252, 0, none⟩)), (20, .pointer (some ⟨b252, 0, none⟩)), (19, v352), (28, .int .i64 t376.1)]) (fun w_ => Mem w X w_ [box b0 76 [p0_0, .int .i64 t376.2], box b252 34 [v352, .int .i64 0, .int .i64 0], own kInt 2 v352 a353, box b237 34 [.slice none 0 0, .int .i64 0, .int .i64 0]]) ?_ (fun K450 => ?_)
    ·rintro w451 HM
     replace HM : Mem w X w451 [box b0 76 [p0_0, .int .i64 t376.2], box b252 34 [v352, .int .i64 0, .int .i64 0], own kInt 2 v352 a353, box b237 34 [.slice none 0 0, .int .i64 0, .int .i64 0]] := HM
     have hS := Mem.suf (M := [box b0 76 [p0_0, .int .i64 t376.2], box b252 34 [v352, .int .i64 0, .int .i64 0], own kInt 2 v352 a353]) HM
     refine drw_any [1, 5] (by kernel_rfl) rfl (.cons ?_ (.cons ?_ .nil))
     ·skip
      refine br_does (l' := (bs 18 6175)) rfl (guard_none rfl) rfl rfl (by kernel_rfl) (does_ex' (ex_load1 rfl rfl Try.underlying32 rfl ((HM.box_at 1 rfl) 0 _ rfl))) ?_
      rintro _ _ ⟨rfl, rfl⟩
      refine ⟨hS, ?_⟩
      exact drw_sub (K443 _ HM) (Sub.cons rfl (Sub.cons rfl (Sub.cons rfl (Sub.cons rfl (Sub.cons rfl (Sub.cons rfl (Sub.cons rfl (Sub.cons rfl Sub.nil))))))))
     ·skip
      refine br_does (l' := (bs 18 6205)) rfl (guard_none rfl) rfl rfl (by kernel_rfl) (does_ex' (ex_load1 rfl rfl Try.underlying32 rfl ((HM.box_at 1 rfl) 0 _ rfl))) ?_
      rintro _ _ ⟨rfl, rfl⟩
      refine ⟨hS, ?_⟩
      refine dt 6 (bs 18 6269) rfl rfl rfl rfl (by kernel_rfl) (ex_len (d := kInt) (xs := a353) rfl rfl Try.underlying32 (HM.own_rd 2 rfl)) hS ?_
      refine dt 7 (bs 18 6397) rfl rfl rfl rfl (by kernel_rfl) (ex_sub rfl rfl rfl) hS ?_
      exact drw_sub (K432 _ HM) (Sub.cons rfl (Sub.cons rfl (Sub.cons rfl (Sub.cons rfl (Sub.cons rfl (Sub.cons rfl (Sub.cons rfl (Sub.cons rfl Sub.nil))))))))
    refine dt 0 (bs 18 1) rfl rfl rfl rfl (by kernel_rfl) (ex_fieldAddr (off' := 0) rfl rfl Try.underlying34 rfl tsz32 rfl) hS ?_
    refine dt 2 (bs 18 5) rfl rfl rfl rfl (by kernel_rfl) (ex_fieldAddr (off' := 0) rfl rfl Try.underlying34 rfl tsz32 rfl) hS ?_
    refine dt 4 (bs 18 21) rfl rfl rfl rfl (by kernel_rfl) (ex_fieldAddr (off' := 0) rfl rfl Try.underlying34 rfl tsz32 rfl) hS ?_
    refine dt 11 (bs 18 2069) rfl rfl rfl rfl (by kernel_rfl) (ex_move rfl rfl) hS ?_
    refine drw_any [1, 3, 5, 12] (by kernel_rfl) rfl (.cons ?_ (.cons ?_ (.cons ?_ (.cons ?_ .nil))))
    ·skip
     refine br_does (l' := (bs 18 2071)) rfl (guard_none rfl) rfl rfl (by kernel_rfl) (does_ex' (ex_load1 rfl rfl Try.underlying32 rfl ((HM.box_at 1 rfl) 0 _ rfl))) ?_
     rintro _ _ ⟨rfl, rfl⟩
     refine ⟨hS, ?_⟩
     refine drw_any [3, 5, 12] (by kernel_rfl) rfl (.cons ?_ (.cons ?_ (.cons ?_ .nil)))
     ·skip
      refine br_does (l' := (bs 18 2079)) rfl (guard_none rfl) rfl rfl (by kernel_rfl) (does_ex' (ex_load1 rfl rfl Try.underlying32 rfl ((HM.box_at 1 rfl) 0 _ rfl))) ?_
      rintro _ _ ⟨rfl, rfl⟩
      refine ⟨hS, ?_⟩
      exact drw_sub (K445 _ HM) (Sub.cons rfl (Sub.cons rfl (Sub.cons rfl (Sub.cons rfl (Sub.cons rfl (Sub.cons rfl (Sub.cons rfl (Sub.cons rfl Sub.nil))))))))
     ·skip
      refine br_does (l' := (bs 18 2103)) rfl (guard_none rfl) rfl rfl (by kernel_rfl) (does_ex' (ex_load1 rfl rfl Try.underlying32 rfl ((HM.box_at 1 rfl) 0 _ rfl))) ?_
      rintro _ _ ⟨rfl, rfl⟩
      refine ⟨hS, ?_⟩
      refine dt 6 (bs 18 2167) rfl rfl rfl rfl (by kernel_rfl) (ex_len (d := kInt) (xs := a353) rfl rfl Try.underlying32 (HM.own_rd 2 rfl)) hS ?_
      refine dt 7 (bs 18 2295) rfl rfl rfl rfl (by kernel_rfl) (ex_sub rfl rfl rfl) hS ?_
      exact drw_sub (K434 _ HM) (Sub.cons rfl (Sub.cons rfl (Sub.cons rfl (Sub.cons rfl (Sub.cons rfl (Sub.cons rfl (Sub.cons rfl (Sub.cons rfl Sub.nil))))))))
     ·skip
      obtain ⟨F378, hF379, hFn380, hFl381, HMh382, hcl383⟩ := HM.hide (Ms := [box b0 76 [p0_0, .int .i64 a351]])
      refine br_does (l' := (bs 18 6167)) rfl (guard_none rfl) rfl rfl (by kernel_rfl) (does_callk rfl callok18 rfl (spec_l1Next.calls (x0 := (⟨x0.fCode, a351⟩ : l1Src)) (x1 := 2) (hide_olds _ _) hF379 hFn380 hFl381 (HMh382.rdo hwo hp0_0) h377)) ?_
      rintro _ w452 ⟨rfl, hn⟩
      replace HM : Mem w X w452 [box b0 76 [p0_0, .int .i64 t376.2], box b252 34 [v352, .int .i64 0, .int .i64 0], own kInt 2 v352 a353, box b237 34 [.slice none 0 0, .int .i64 0, .int .i64 0]] := hcl383 _ _ hn
      have hS := Mem.suf (M := [box b0 76 [p0_0, .int .i64 t376.2], box b252 34 [v352, .int .i64 0, .int .i64 0], own kInt 2 v352 a353]) HM
      refine ⟨hS, ?_⟩
      exact drw_sub (K448 _ HM) (Sub.cons rfl (Sub.cons rfl (Sub.cons rfl (Sub.cons rfl (Sub.cons rfl (Sub.cons rfl (Sub.cons rfl (Sub.cons rfl Sub.nil))))))))
    ·skip
     refine br_does (l' := (bs 18 2077)) rfl (guard_none rfl) rfl rfl (by kernel_rfl) (does_ex' (ex_load1 rfl rfl Try.underlying32 rfl ((HM.box_at 1 rfl) 0 _ rfl))) ?_
     rintro _ _ ⟨rfl, rfl⟩
     refine ⟨hS, ?_⟩
     refine drw_any [1, 5, 12] (by kernel_rfl) rfl (.cons ?_ (.cons ?_ (.cons ?_ .nil)))
     ·skip
      refine br_does (l' := (bs 18 2079)) rfl (guard_none rfl) rfl rfl (by kernel_rfl) (does_ex' (ex_load1 rfl rfl Try.underlying32 rfl ((HM.box_at 1 rfl) 0 _ rfl))) ?_
      rintro _ _ ⟨rfl, rfl⟩
      refine ⟨hS, ?_⟩
      exact drw_sub (K445 _ HM) (Sub.cons rfl (Sub.cons rfl (Sub.cons rfl (Sub.cons rfl (Sub.cons rfl (Sub.cons rfl (Sub.cons rfl (Sub.cons rfl Sub.nil))))))))
     ·skip
      refine br_does (l' := (bs 18 2109)) rfl (guard_none rfl) rfl rfl (by kernel_rfl) (does_ex' (ex_load1 rfl rfl Try.underlying32 rfl ((HM.box_at 1 rfl) 0 _ rfl))) ?_
      rintro _ _ ⟨rfl, rfl⟩
      refine ⟨hS, ?_⟩
      refine dt 6 (bs 18 2173) rfl rfl rfl rfl (by kernel_rfl) (ex_len (d := kInt) (xs := a353) rfl rfl Try.underlying32 (HM.own_rd 2 rfl)) hS ?_
      refine dt 7 (bs 18 2301) rfl rfl rfl rfl (by kernel_rfl) (ex_sub rfl rfl rfl) hS ?_
      exact drw_sub (K437 _ HM) (Sub.cons rfl (Sub.cons rfl (Sub.cons rfl (Sub.cons rfl (Sub.cons rfl (Sub.cons rfl (Sub.cons rfl (Sub.cons rfl Sub.nil))))))))
     ·skip
      obtain ⟨F378, hF379, hFn380, hFl381, HMh382, hcl383⟩ := HM.hide (Ms := [box b0 76 [p0_0, .int .i64 a351]])
      refine br_does (l' := (bs 18 6173)) rfl (guard_none rfl) rfl rfl (by kernel_rfl) (does_callk rfl callok18 rfl (spec_l1Next.calls (x0 := (⟨x0.fCode, a351⟩ : l1Src)) (x1 := 2) (hide_olds _ _) hF379 hFn380 hFl381 (HMh382.rdo hwo hp0_0) h377)) ?_
      rintro _ w453 ⟨rfl, hn⟩
      replace HM : Mem w X w453 [box b0 76 [p0_0, .int .i64 t376.2], box b252 34 [v352, .int .i64 0, .int .i64 0], own kInt 2 v352 a353, box b237 34 [.slice none 0 0, .int .i64 0, .int .i64 0]] := hcl383 _ _ hn
      have hS := Mem.suf (M := [box b0 76 [p0_0, .int .i64 t376.2], box b252 34 [v352, .int .i64 0, .int .i64 0], own kInt 2 v352 a353]) HM
      refine ⟨hS, ?_⟩
      exact drw_sub (K450 _ HM) (Sub.cons rfl (Sub.cons rfl (Sub.cons rfl (Sub.cons rfl (Sub.cons rfl (Sub.cons rfl (Sub.cons rfl (Sub.cons rfl Sub.nil))))))))
    ·skip
     refine br_does (l' := (bs 18 2101)) rfl (guard_none rfl) rfl rfl (by kernel_rfl) (does_ex' (ex_load1 rfl rfl Try.underlying32 rfl ((HM.box_at 1 rfl) 0 _ rfl))) ?_
     rintro _ _ ⟨rfl, rfl⟩
     refine ⟨hS, ?_⟩
     refine dt 6 (bs 18 2165) rfl rfl rfl rfl (by kernel_rfl) (ex_len (d := kInt) (xs := a353) rfl rfl Try.underlying32 (HM.own_rd 2 rfl)) hS ?_
     refine dt 7 (bs 18 2293) rfl rfl rfl rfl (by kernel_rfl) (ex_sub rfl rfl rfl) hS ?_
     refine drw_any [1, 3, 12] (by kernel_rfl) rfl (.cons ?_ (.cons ?_ (.cons ?_ .nil)))
     ·skip
      refine br_does (l' := (bs 18 2295)) rfl (guard_none rfl) rfl rfl (by kernel_rfl) (does_ex' (ex_load1 rfl rfl Try.underlying32 rfl ((HM.box_at 1 rfl) 0 _ rfl))) ?_
      rintro _ _ ⟨rfl, rfl⟩
      refine ⟨hS, ?_⟩
      exact drw_sub (K434 _ HM) (Sub.cons rfl (Sub.cons rfl (Sub.cons rfl (Sub.cons rfl (Sub.cons rfl (Sub.cons rfl (Sub.cons rfl (Sub.cons rfl Sub.nil))))))))
     ·skip
      refine br_does (l' := (bs 18 2301)) rfl (guard_none rfl) rfl rfl (by kernel_rfl) (does_ex' (ex_load1 rfl rfl Try.underlying32 rfl ((HM.box_at 1 rfl) 0 _ rfl))) ?_
      rintro _ _ ⟨rfl, rfl⟩
      refine ⟨hS, ?_⟩
      exact drw_sub (K437 _ HM) (Sub.cons rfl (Sub.cons rfl (Sub.cons rfl (Sub.cons rfl (Sub.cons rfl (Sub.cons rfl (Sub.cons rfl (Sub.cons rfl Sub.nil))))))))
     ·skip
      obtain ⟨F378, hF379, hFn380, hFl381, HMh382, hcl383⟩ := HM.hide (Ms := [box b0 76 [p0_0, .int .i64 a351]])
      refine br_does (l' := (bs 18 6389)) rfl (guard_none rfl) rfl rfl (by kernel_rfl) (does_callk rfl callok18 rfl (spec_l1Next.calls (x0 := (⟨x0.fCode, a351⟩ : l1Src)) (x1 := 2) (hide_olds _ _) hF379 hFn380 hFl381 (HMh382.rdo hwo hp0_0) h377)) ?_
      rintro _ w454 ⟨rfl, hn⟩
      replace HM : Mem w X w454 [box b0 76 [p0_0, .int .i64 t376.2], box b252 34 [v352, .int .i64 0, .int .i64 0], own kInt 2 v352 a353, box b237 34 [.slice none 0 0, .int .i64 0, .int .i64 0]] := hcl383 _ _ hn
      have hS := Mem.suf (M := [box b0 76 [p0_0, .int .i64 t376.2], box b252 34 [v352, .int .i64 0, .int .i64 0], own kInt 2 v352 a353]) HM
      refine ⟨hS, ?_⟩
      exact drw_sub (K441 _ HM) (Sub.cons rfl (Sub.cons rfl (Sub.cons rfl (Sub.cons rfl (Sub.cons rfl (Sub.cons rfl (Sub.cons rfl (Sub.cons rfl Sub.nil))))))))
    ·skip
     obtain ⟨F378, hF379, hFn380, hFl381, HMh382, hcl383⟩ := HM.hide (Ms := [box b0 76 [p0_0, .int .i64 a351]])
     refine br_does (l' := (bs 18 6165)) rfl (guard_none rfl) rfl rfl (by kernel_rfl) (does_callk rfl callok18 rfl (spec_l1Next.calls (x0 := (⟨x0.fCode, a351⟩ : l1Src)) (x1 := 2) (hide_olds _ _) hF379 hFn380 hFl381 (HMh382.rdo hwo hp0_0) h377)) ?_
     rintro _ w455 ⟨rfl, hn⟩
     replace HM : Mem w X w455 [box b0 76 [p0_0, .int .i64 t376.2], box b252 34 [v352, .int .i64 0, .int .i64 0], own kInt 2 v352 a353, box b237 34 [.slice none 0 0, .int .i64 0, .int .i64 0]] := hcl383 _ _ hn
     have hS := Mem.suf (M := [box b0 76 [p0_0, .int .i64 t376.2], box b252 34 [v352, .int .i64 0, .int .i64 0], own kInt 2 v352 a353]) HM
     refine ⟨hS, ?_⟩
     refine drw_any [1, 3, 5] (by kernel_rfl) rfl (.cons ?_ (.cons ?_ (.cons ?_ .nil)))
     ·skip
      refine br_does (l' := (bs 18 6167)) rfl (guard_none rfl) rfl rfl (by kernel_rfl) (does_ex' (ex_load1 rfl rfl Try.underlying32 rfl ((HM.box_at 1 rfl) 0 _ rfl))) ?_
      rintro _ _ ⟨rfl, rfl⟩
      refine ⟨hS, ?_⟩
      exact drw_sub (K448 _ HM) (Sub.cons rfl (Sub.cons rfl (Sub.cons rfl (Sub.cons rfl (Sub.cons rfl (Sub.cons rfl (Sub.cons rfl (Sub.cons rfl Sub.nil))))))))
     ·skip
      refine br_does (l' := (bs 18 6173)) rfl (guard_none rfl) rfl rfl (by kernel_rfl) (does_ex' (ex_load1 rfl rfl Try.underlying32 rfl ((HM.box_at 1 rfl) 0 _ rfl))) ?_
      rintro _ _ ⟨rfl, rfl⟩
      refine ⟨hS, ?_⟩
      exact drw_sub (K450 _ HM) (Sub.cons rfl (Sub.cons rfl (Sub.cons rfl (Sub.cons rfl (Sub.cons rfl (Sub.cons rfl (Sub.cons rfl (Sub.cons rfl Sub.nil))))))))
     ·skip
      refine br_does (l' := (bs 18 6197)) rfl (guard_none rfl) rfl rfl (by kernel_rfl) (does_ex' (ex_load1 rfl rfl Try.underlying32 rfl ((HM.box_at 1 rfl) 0 _ rfl))) ?_
      rintro _ _ ⟨rfl, rfl⟩
      refine ⟨hS, ?_⟩
      refine dt 6 (bs 18 6261) rfl rfl rfl rfl (by kernel_rfl) (ex_len (d := kInt) (xs := a353) rfl rfl Try.underlying32 (HM.own_rd 2 rfl)) hS ?_
      refine dt 7 (bs 18 6389) rfl rfl rfl rfl (by kernel_rfl) (ex_sub rfl rfl rfl) hS ?_
      exact drw_sub (K441 _ HM) (Sub.cons rfl (Sub.cons rfl (Sub.cons rfl (Sub.cons rfl (Sub.cons rfl (Sub.cons rfl (Sub.cons rfl (Sub.cons rfl Sub.nil))))))))
   ·rintro _ w456 ⟨v388, rfl, HM⟩
    refine at_block ?_
    refine at_then ?_
    refine run_region rfl ?_
    refine ox rfl rfl rfl rfl (ex_move rfl rfl) ?_
    refine ox rfl rfl rfl rfl (ex_sub rfl rfl rfl) ?_
    refine ox rfl rfl rfl rfl (ex_assign rfl rfl) ?_
    refine ops_nil ?_
    exact at_again k372 (ρ1 := [(0, .pointer (some ⟨b0, 0, none⟩)), (2, .pointer (some ⟨b237, 0, none⟩)), (3, .pointer (some ⟨b252, 0, none⟩)), (4, .int .i64 (wrap64 (a355 - 1)))]) (Nat.lt_succ_self _) ⟨_, _, _, _, ho325, rfl, HM⟩ (Sub.cons rfl (Sub.cons rfl (Sub.cons rfl (Sub.cons rfl Sub.nil))))
  ·replace ho325 := cond_f hb374 ho325
   refine run_exit ?_
   refine at_then_exit ?_
   refine at_then_exit ?_
   refine at_block_exit ?_
   exact at_mid (ρ' := [(0, .pointer (some ⟨b0, 0, none⟩)), (2, .pointer (some ⟨b237, 0, none⟩)), (3, .pointer (some ⟨b252, 0, none⟩))]) ⟨_, _, _, (Option.some.inj ho325), rfl, HM⟩ (Sub.cons rfl (Sub.cons rfl (Sub.cons rfl Sub.nil)))
 ·rintro _ w457 ⟨a320, v321, a322, rfl, rfl, HM⟩
  replace H := cur2_mk H
  refine run_seq ?_
  obtain ⟨t458, h459, H⟩ := bind_some H
  refine run_region rfl ?_
  refine ox rfl rfl rfl rfl (ex_move rfl rfl) ?_
  refine ox rfl rfl rfl rfl (ex_fieldAddr (off' := 0) rfl rfl Try.underlying34 rfl tsz32 rfl) ?_
  refine ox rfl rfl rfl rfl (ex_load1 rfl rfl Try.underlying32 rfl ((HM.box_at 2 rfl) 0 _ rfl)) ?_
  refine ox rfl rfl rfl rfl (ex_len (d := kInt) (xs := a322) rfl rfl Try.underlying32 (HM.own_rd 3 rfl)) ?_
  obtain ⟨F460, hF461, hFn462, hFl463, HMh464, hcl465⟩ := HM.hide (Ms := [box b0 76 [p0_0, .int .i64 a320]])
  refine od rfl rfl rfl rfl (does_callk rfl callok18 rfl (spec_l1Next.calls (x0 := (⟨x0.fCode, a320⟩ : l1Src)) (x1 := (a322.length : Int)) (hide_olds _ _) hF461 hFn462 hFl463 (HMh464.rdo hwo hp0_0) h459)) ?_
  rintro _ w466 ⟨rfl, hn⟩
  replace HM : Mem w X w466 [box b0 76 [p0_0, .int .i64 t458.2], box b237 34 [.slice none 0 0, .int .i64 0, .int .i64 0], box b252 34 [v321, .int .i64 0, .int .i64 0], own kInt 2 v321 a322] := hcl465 _ _ hn
  refine ox rfl rfl rfl rfl (ex_add rfl rfl rfl) ?_
  refine ox rfl rfl rfl rfl (ex_fieldAddr (off' := 1) rfl rfl Try.underlying34 rfl tsz2 rfl) ?_
  replace HM := HM.front 2 rfl rfl
  refine odS rfl rfl rfl (does_store (vs := [.int .i64 (wrap64 (1 + t458.1))]) (cs' := [v321, .int .i64 (wrap64 (1 + t458.1)), .int .i64 0]) rfl rfl rfl rfl tsz2 (Ones.int Ones.nil) rfl rfl HM) ?_
  rintro w467 HM
  refine ops_nil (at_then (run_seq ?_))
  obtain ⟨t468, h469, H⟩ := bind_some H
  obtain ⟨t479, h480, H⟩ := bind_some H
  refine run_region rfl ?_
  refine ox rfl rfl rfl rfl (ex_move rfl rfl) ?_
  refine ox rfl rfl rfl rfl (ex_move rfl rfl) ?_
  replace HM := HM.front 1 rfl rfl
  obtain ⟨F470, hF471, hFn472, hFl473, HMh474, hcl475⟩ := HM.hide (Ms := [box b0 76 [p0_0, .int .i64 t458.2]])
  refine od rfl rfl rfl rfl (does_callk rfl callok18 rfl (spec_l1Next.calls (x0 := (⟨x0.fCode, t458.2⟩ : l1Src)) (x1 := 9) (hide_olds _ _) hF471 hFn472 hFl473 (HMh474.rdo hwo hp0_0) h469)) ?_
  rintro _ w487 ⟨rfl, hn⟩
  replace HM : Mem w X w487 [box b0 76 [p0_0, .int .i64 t468.2], box b252 34 [v321, .int .i64 (wrap64 (1 + t458.1)), .int .i64 0], box b237 34 [.slice none 0 0, .int .i64 0, .int .i64 0], own kInt 2 v321 a322] := hcl475 _ _ hn
  refine od rfl rfl rfl rfl (does_lit (e := 2) (cs := [.int .i64 0, .int .i64 0, .int .i64 0, .int .i64 t468.1]) (xs := ([0, 0, 0, t468.1] : List Int)) kInt rfl rfl (fun _ => by kernel_rfl) rfl rfl (fun _ _ h => by have h' : _ = [] := h; subst h'; exact (Elems.cons (d := kInt) (x := 0) (f := []) ⟨rfl, rfl⟩ (Elems.cons (d := kInt) (x := 0) (f := []) ⟨rfl, rfl⟩ (Elems.cons (d := kInt) (x := 0) (f := []) ⟨rfl, rfl⟩ (Elems.cons (d := kInt) (x := t468.1) (f := []) ⟨rfl, rfl⟩ .nil))))) HM.emp) ?_
  rintro v476 w488 HM
  replace HM := HM.front 1 rfl rfl
  obtain ⟨F481, hF482, hFn483, hFl484, HMh485, hcl486⟩ := HM.hide (Ms := [box b0 76 [p0_0, .int .i64 t468.2]])
  refine od rfl rfl rfl rfl (does_callk rfl callok19 rfl (spec_l1Pick.calls (x0 := (⟨x0.fCode, t468.2⟩ : l1Src)) (x1 := ([0, 0, 0, t468.1] : List Int)) (hide_olds _ _) hF482 hFn483 hFl484 (HMh485.rdo hwo hp0_0) (HMh485.own_rd 0 rfl) h480)) ?_
  rintro _ w489 ⟨rfl, hn⟩
  replace HM : Mem w X w489 [box b0 76 [p0_0, .int .i64 t479.2], own kInt 2 v476 ([0, 0, 0, t468.1] : List Int), box b252 34 [v321, .int .i64 (wrap64 (1 + t458.1)), .int .i64 0], box b237 34 [.slice none 0 0, .int .i64 0, .int .i64 0], own kInt 2 v321 a322] := hcl486 _ _ hn
  refine ox rfl rfl rfl rfl (ex_fieldAddr (off' := 2) rfl rfl Try.underlying34 rfl tsz2 rfl) ?_
  replace HM := HM.front 2 rfl rfl
  refine odS rfl rfl rfl (does_store (vs := [.int .i64 t479.1]) (cs' := [v321, .int .i64 (wrap64 (1 + t458.1)), .int .i64 t479.1]) rfl rfl rfl rfl tsz2 (Ones.int Ones.nil) rfl rfl HM) ?_
  rintro w490 HM
  refine ops_nil (at_then (run_seq ?_))
  refine run_region rfl ?_
  refine ox rfl rfl rfl rfl (ex_loadN (cs := [v321, (.int .i64 (wrap64 (1 + t458.1))), (.int .i64 t479.1)]) rfl rfl Try.underlying34 rfl tsz34 rfl ((HM.box_at 0 rfl).sub 0 3 rfl)) ?_
  replace HM := HM.front 3 rfl rfl
  refine odS rfl rfl rfl (does_store (vs := [v321, .int .i64 (wrap64 (1 + t458.1)), .int .i64 t479.1]) (cs' := [v321, .int .i64 (wrap64 (1 + t458.1)), .int .i64 t479.1]) rfl rfl rfl rfl tsz34 (Ones.rd (HM.own_rd 4 rfl) (Ones.int (Ones.int Ones.nil))) rfl rfl HM) ?_
  rintro w491 HM
  refine ops_nil (at_then ?_)
  refine run_ret ?_
  replace HM := (HM.front 1 rfl rfl).drop
  replace HM := (HM.front 2 rfl rfl).drop
  replace HM := HM.front 1 rfl rfl
  replace HM := HM.front 2 rfl rfl
  replace HM := HM.front 2 rfl rfl
  have hcb0 := HM.box_at 0 rfl
  replace HM := (HM.front 0 rfl rfl).drop
  have hR := Option.some.inj H
  subst hR
  exact at_retN rfl rfl Try.underlying34 rfl tsz34 rfl hcb0 ⟨_, rfl, _, rfl, HM⟩
end Go.Proofs.Ytecgbhfgkkpmhaa.Zk
