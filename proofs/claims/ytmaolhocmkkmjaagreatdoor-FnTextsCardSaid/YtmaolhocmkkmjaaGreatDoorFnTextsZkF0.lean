/- What functions of the program compute, each as a plain function, and that they do. Conditions: as each theorem states them. -/
import Derived.Test.YtmaolhocmkkmjaaGreatDoorFnTextsZkTy
namespace Go.Proofs.YtmaolhocmkkmjaaGreatDoor.Zk
open Go Go.RowKit Go.IntWalk Go.Proofs
set_option linter.unusedVariables false
set_option linter.unusedSimpArgs false
set_option maxRecDepth 100000
set_option maxHeartbeats 4000000
def laws_lwBig.f (k : Nat) (x0 : List Int) : Option Bool := some (decide (1048576 < (x0.length : Int)))
theorem laws_lwBig.calls {k : Nat} {x0 : List Int} {p0 : Value} {w : World} (hp0 : RdS kU8 w p0 x0) {r : Bool} (H : laws_lwBig.f k x0 = some r) :
    Calls Tryz.prog 4 ([p0] : List Value).toArray w (fun e w_ => ∃ v, e = .returned v ∧ v = (.bool r) ∧ Mem w [] w_ []) := by
  have HM := Mem.start w
  refine calls_run (N := 6) Tryz.func4 rfl rfl rfl rfl ?_
  unfold laws_lwBig.f at H
  refine run_seq ?_
  refine run_region rfl ?_
  refine ox rfl rfl rfl rfl (ex_assign rfl rfl) ?_
  refine ops_nil (at_then (run_seq ?_))
  refine run_region rfl ?_
  refine ox rfl rfl rfl rfl (ex_move rfl rfl) ?_
  refine ox rfl rfl rfl rfl (ex_len (d := kU8) (xs := x0) rfl rfl Tryz.underlying22 hp0) ?_
  refine ox rfl rfl rfl rfl (ex_gtr rfl rfl rfl) ?_
  refine ox rfl rfl rfl rfl (ex_assign rfl rfl) ?_
  refine ops_nil (at_then ?_)
  refine run_ret ?_
  have hR := Option.some.inj H
  subst hR
  exact at_ret1 rfl rfl ⟨_, rfl, rfl, HM⟩

def spec_l1Source.f (k : Nat) (x0 : List Int) : Option Int := some 0
theorem spec_l1Source.calls {k : Nat} {x0 : List Int} {p0 : Value} {w : World} (hp0 : RdS kU8 w p0 x0) {r : Int} (H : spec_l1Source.f k x0 = some r) :
    Calls Tryz.prog 16 ([p0] : List Value).toArray w (fun e w_ => ∃ v, e = .returned v ∧ ∃ ub : Nat, v = (.pointer (some ⟨ub, 0, none⟩)) ∧ Mem w [] w_ [box ub 70 [p0, .int .i64 r]]) := by
  have HM := Mem.start w
  refine calls_run (N := 6) Tryz.func16 rfl rfl rfl rfl ?_
  unfold spec_l1Source.f at H
  refine run_seq ?_
  refine run_region rfl ?_
  refine ox rfl rfl rfl rfl (ex_assign rfl rfl) ?_
  refine ops_nil (at_then (run_seq ?_))
  refine run_region rfl ?_
  refine ox rfl rfl rfl rfl (ex_move rfl rfl) ?_
  refine ox rfl rfl rfl rfl (ex_build1 (fun p0 => [(0, p0)]) (fun p0 => #[p0, .int .i64 0]) rfl rfl (fun _ _ _ => by kernel_rfl) hp0.isSl) ?_
  refine od rfl rfl rfl rfl (does_box (cs := [p0, .int .i64 0]) rfl rfl rfl HM) ?_
  rintro _ w13 ⟨b10, rfl, HM⟩
  refine ox rfl rfl rfl rfl (ex_assign rfl rfl) ?_
  refine ops_nil (at_then ?_)
  refine run_ret ?_
  have hR := Option.some.inj H
  subst hR
  exact at_ret1 rfl rfl ⟨_, rfl, _, rfl, HM⟩

def spec_l1Next.f (k : Nat) (x0 : l1Src) (x1 : Int) : Option (Int × Int) := (bif (decide (x1 < 1)) then some (0, wrap64 (x0.fAt + 1)) else (bif ((x0.fCode.length : Int) == 0) then (chk (x1 != 0) (some (Int.tmod (wrap64 ((wrap64 ((wrap64 (x0.fAt + 1)) - 1)) * 7)) x1, wrap64 (x0.fAt + 1)))) else (chk ((x0.fCode.length : Int) != 0) (chk (idxOk (Int.tmod (wrap64 ((wrap64 (x0.fAt + 1)) - 1)) (x0.fCode.length : Int)) x0.fCode.length) (chk ((x0.fCode.length : Int) != 0) (bif (decide (200 < x1)) then (chk ((x0.fCode.length : Int) != 0) (chk (idxOk (Int.tmod (wrap64 ((wrap64 ((wrap64 (x0.fAt + 1)) - 1)) + 1)) (x0.fCode.length : Int)) x0.fCode.length) (chk (x1 != 0) (some (Int.tmod (wrap64 ((wrap64 ((wrap64 ((wrap64 ((wrap64 (gt x0.fCode (Int.tmod (wrap64 ((wrap64 (x0.fAt + 1)) - 1)) (x0.fCode.length : Int)))) + (wrap64 ((IntKind.i64.wrap (Int.tdiv (wrap64 ((wrap64 (x0.fAt + 1)) - 1)) (x0.fCode.length : Int))) * 37)))) * 251)) + (wrap64 ((wrap64 (gt x0.fCode (Int.tmod (wrap64 ((wrap64 ((wrap64 (x0.fAt + 1)) - 1)) + 1)) (x0.fCode.length : Int)))) * 13)))) + (wrap64 ((wrap64 (x0.fAt + 1)) - 1)))) x1, wrap64 (x0.fAt + 1)))))) else (chk (x1 != 0) (some (Int.tmod (wrap64 ((wrap64 (gt x0.fCode (Int.tmod (wrap64 ((wrap64 (x0.fAt + 1)) - 1)) (x0.fCode.length : Int)))) + (wrap64 ((IntKind.i64.wrap (Int.tdiv (wrap64 ((wrap64 (x0.fAt + 1)) - 1)) (x0.fCode.length : Int))) * 37)))) x1, wrap64 (x0.fAt + 1))))))))))
theorem spec_l1Next.calls {k : Nat} {x0 : l1Src} {x1 : Int} {b0 : Nat} {p0_0 : Value} {w wo : World} {X : List Nat} (hwo : Olds wo w X) (hX : Hold w [box b0 70 [p0_0, .int .i64 x0.fAt]] X) (hXn : X.Nodup) (hXl : ∀ b ∈ X, b < w.heap.size) (hp0_0 : RdS kU8 wo p0_0 x0.fCode) {r : Int × Int} (H : spec_l1Next.f k x0 x1 = some r) :
    Calls Tryz.prog 19 ([.pointer (some ⟨b0, 0, none⟩), .int .i64 x1] : List Value).toArray w (fun e w_ => ∃ v, e = .returned v ∧ v = (.int .i64 r.1) ∧ Mem w X w_ [box b0 70 [p0_0, .int .i64 r.2]]) := by
  have HM := Mem.startX hX hXn hXl
  refine calls_run (N := 71) Tryz.func19 rfl rfl rfl rfl ?_
  unfold spec_l1Next.f at H
  refine run_seq ?_
  refine run_region rfl ?_
  refine ox rfl rfl rfl rfl (ex_assign rfl rfl) ?_
  refine ops_nil (at_then (run_seq ?_))
  refine run_region rfl ?_
  refine ox rfl rfl rfl rfl (ex_move rfl rfl) ?_
  refine ox rfl rfl rfl rfl (ex_move rfl rfl) ?_
  refine ox rfl rfl rfl rfl (ex_nilCheck rfl rfl) ?_
  refine ox rfl rfl rfl rfl (ex_fieldAddr (off' := 1) rfl rfl Tryz.underlying70 rfl tsz2 rfl) ?_
  refine ox rfl rfl rfl rfl (ex_load1 rfl rfl Tryz.underlying2 rfl ((HM.box_at 0 rfl) 1 _ rfl)) ?_
  refine ox rfl rfl rfl rfl (ex_add rfl rfl rfl) ?_
  refine ox rfl rfl rfl rfl (ex_nilCheck rfl rfl) ?_
  refine ox rfl rfl rfl rfl (ex_fieldAddr (off' := 1) rfl rfl Tryz.underlying70 rfl tsz2 rfl) ?_
  refine odS rfl rfl rfl (does_store (vs := [.int .i64 (wrap64 (x0.fAt + 1))]) (cs' := [p0_0, .int .i64 (wrap64 (x0.fAt + 1))]) rfl rfl rfl rfl tsz2 (Ones.int Ones.nil) rfl rfl HM) ?_
  rintro w41 HM
  refine ops_nil (at_then (run_seq ?_))
  refine run_seq ?_
  refine run_region rfl ?_
  refine ox rfl rfl rfl rfl (ex_move rfl rfl) ?_
  refine ox rfl rfl rfl rfl (ex_lss rfl rfl rfl) ?_
  refine ops_nil (at_then ?_)
  refine run_cond (b := (decide (x1 < 1))) rfl (fun hb43 => ?_) (fun hb43 => ?_)
  · replace H := cond_t hb43 H
    refine run_seq ?_
    refine run_region rfl ?_
    refine ox rfl rfl rfl rfl (ex_assign rfl rfl) ?_
    refine ops_nil (at_then ?_)
    refine run_ret ?_
    refine at_then_ret ?_
    have hR := Option.some.inj H
    subst hR
    exact at_ret1 rfl rfl ⟨_, rfl, rfl, HM⟩
  · replace H := cond_f hb43 H
    refine run_skip ?_
    refine at_then ?_
    refine run_seq ?_
    refine run_region rfl ?_
    refine ox rfl rfl rfl rfl (ex_move rfl rfl) ?_
    refine ox rfl rfl rfl rfl (ex_nilCheck rfl rfl) ?_
    refine ox rfl rfl rfl rfl (ex_fieldAddr (off' := 1) rfl rfl Tryz.underlying70 rfl tsz2 rfl) ?_
    refine ox rfl rfl rfl rfl (ex_load1 rfl rfl Tryz.underlying2 rfl ((HM.box_at 0 rfl) 1 _ rfl)) ?_
    refine ox rfl rfl rfl rfl (ex_sub rfl rfl rfl) ?_
    refine ox rfl rfl rfl rfl (ex_assign rfl rfl) ?_
    refine ops_nil (at_then (run_seq ?_))
    refine run_region rfl ?_
    refine ox rfl rfl rfl rfl (ex_move rfl rfl) ?_
    refine ox rfl rfl rfl rfl (ex_nilCheck rfl rfl) ?_
    refine ox rfl rfl rfl rfl (ex_fieldAddr (off' := 0) rfl rfl Tryz.underlying70 rfl tsz22 rfl) ?_
    refine ox rfl rfl rfl rfl (ex_load1 rfl rfl Tryz.underlying22 rfl ((HM.box_at 0 rfl) 0 _ rfl)) ?_
    refine ox rfl rfl rfl rfl (ex_len (d := kU8) (xs := x0.fCode) rfl rfl Tryz.underlying22 hp0_0) ?_
    refine ox rfl rfl rfl rfl (ex_assign rfl rfl) ?_
    refine ops_nil (at_then (run_seq ?_))
    refine run_seq ?_
    refine run_region rfl ?_
    refine ox rfl rfl rfl rfl (ex_move rfl rfl) ?_
    refine ox rfl rfl rfl rfl (ex_eql rfl rfl rfl) ?_
    refine ops_nil (at_then ?_)
    refine run_cond (b := ((x0.fCode.length : Int) == 0)) rfl (fun hb46 => ?_) (fun hb46 => ?_)
    · replace H := cond_t hb46 H
      refine run_seq ?_
      obtain ⟨e47, H⟩ := chk_some H
      refine run_region rfl ?_
      refine ox rfl rfl rfl rfl (ex_move rfl rfl) ?_
      refine ox rfl rfl rfl rfl (ex_mul rfl rfl rfl) ?_
      refine ox rfl rfl rfl rfl (ex_move rfl rfl) ?_
      refine ox rfl rfl rfl rfl (ex_remk rfl rfl rfl e47) ?_
      refine ox rfl rfl rfl rfl (ex_assign rfl rfl) ?_
      refine ops_nil (at_then ?_)
      refine run_ret ?_
      refine at_then_ret ?_
      have hR := Option.some.inj H
      subst hR
      exact at_ret1 rfl rfl ⟨_, rfl, rfl, HM⟩
    · replace H := cond_f hb46 H
      refine run_skip ?_
      refine at_then ?_
      refine run_seq ?_
      obtain ⟨e48, H⟩ := chk_some H
      obtain ⟨e49, H⟩ := chk_some H
      obtain ⟨e51, H⟩ := chk_some H
      refine run_drawf (fun w_ => Mem w X w_ [box b0 70 [p0_0, .int .i64 (wrap64 (x0.fAt + 1))]]) [(0, true), (1, true), (2, true), (3, true), (4, true), (5, true), (6, true), (7, true), (8, true), (9, true), (10, true), (11, true), (12, true), (13, true), (14, true), (15, true)] mixed rfl rfl (by kernel_rfl) ?_
      replace HM := HM.grow (fr_drew _)
      have hS := Mem.suf (M := []) HM
      refine dp rfl rfl rfl rfl (ex_move rfl rfl) hS ?_
      refine dp rfl rfl rfl rfl (ex_nilCheck rfl rfl) hS ?_
      refine dp rfl rfl rfl rfl (ex_fieldAddr (off' := 0) rfl rfl Tryz.underlying70 rfl tsz22 rfl) hS ?_
      refine drwp_take rfl (guard_none rfl) rfl rfl (fun w_ hS_ => (ex_load1 rfl rfl Tryz.underlying22 rfl ((hS_.box_at 0 rfl) 0 _ rfl))) hS ?_
      refine dp rfl rfl rfl rfl (ex_move rfl rfl) hS ?_
      refine dp rfl rfl rfl rfl (ex_move rfl rfl) hS ?_
      refine dp rfl rfl rfl rfl (ex_remk rfl rfl rfl e48) hS ?_
      have hc50 : CellsAt _ (sb p0_0) (so p0_0 + (Int.tmod (wrap64 ((wrap64 (x0.fAt + 1)) - 1)) (x0.fCode.length : Int)).toNat * 1) [(.int .u8 (gt x0.fCode (Int.tmod (wrap64 ((wrap64 (x0.fAt + 1)) - 1)) (x0.fCode.length : Int))))] := rd_plain hp0_0 e49
      refine dp rfl rfl rfl rfl (ex_indexAddr (d := kU8) rfl rfl rfl Tryz.underlying22 tsz5 hp0_0 (idx_lo e49) (idx_hi e49)) hS ?_
      refine drwp_take rfl (guard_none rfl) rfl rfl (fun w_ hS_ => (ex_load1 rfl rfl Tryz.underlying5 rfl ((hS_.ato hwo hc50) 0 _ rfl))) hS ?_
      refine dp rfl rfl rfl rfl (ex_conv64 rfl rfl (by rw [Tryz.underlying5]; rfl) Tryz.underlying2) hS ?_
      refine dp rfl rfl rfl rfl (ex_move rfl rfl) hS ?_
      refine dp rfl rfl rfl rfl (ex_move rfl rfl) hS ?_
      refine dp rfl rfl rfl rfl (ex_quok rfl rfl rfl e51) hS ?_
      refine dp rfl rfl rfl rfl (ex_mul rfl rfl rfl) hS ?_
      refine dp rfl rfl rfl rfl (ex_add rfl rfl rfl) hS ?_
      refine dp rfl rfl rfl rfl (ex_assign rfl rfl) hS ?_
      refine drwp_done ?_
      refine at_then ?_
      refine run_seq ?_
      refine run_seq ?_
      refine run_region rfl ?_
      refine ox rfl rfl rfl rfl (ex_move rfl rfl) ?_
      refine ox rfl rfl rfl rfl (ex_gtr rfl rfl rfl) ?_
      refine ops_nil (at_then ?_)
      refine run_cond (b := (decide (200 < x1))) rfl (fun hb52 => ?_) (fun hb52 => ?_)
      · replace H := cond_t hb52 H
        obtain ⟨e53, H⟩ := chk_some H
        obtain ⟨e54, H⟩ := chk_some H
        refine run_drawf (fun w_ => Mem w X w_ [box b0 70 [p0_0, .int .i64 (wrap64 (x0.fAt + 1))]]) [(0, true), (1, true), (2, true), (3, true), (4, true), (5, true), (6, true), (7, true), (8, true), (9, true), (10, true), (11, true), (12, true), (13, true), (14, true), (15, true), (16, true), (17, true)] mixed rfl rfl (by kernel_rfl) ?_
        replace HM := HM.grow (fr_drew _)
        have hS := Mem.suf (M := []) HM
        refine dp rfl rfl rfl rfl (ex_move rfl rfl) hS ?_
        refine dp rfl rfl rfl rfl (ex_mul rfl rfl rfl) hS ?_
        refine dp rfl rfl rfl rfl (ex_move rfl rfl) hS ?_
        refine dp rfl rfl rfl rfl (ex_nilCheck rfl rfl) hS ?_
        refine dp rfl rfl rfl rfl (ex_fieldAddr (off' := 0) rfl rfl Tryz.underlying70 rfl tsz22 rfl) hS ?_
        refine drwp_take rfl (guard_none rfl) rfl rfl (fun w_ hS_ => (ex_load1 rfl rfl Tryz.underlying22 rfl ((hS_.box_at 0 rfl) 0 _ rfl))) hS ?_
        refine dp rfl rfl rfl rfl (ex_move rfl rfl) hS ?_
        refine dp rfl rfl rfl rfl (ex_add rfl rfl rfl) hS ?_
        refine dp rfl rfl rfl rfl (ex_move rfl rfl) hS ?_
        refine dp rfl rfl rfl rfl (ex_remk rfl rfl rfl e53) hS ?_
        have hc55 : CellsAt _ (sb p0_0) (so p0_0 + (Int.tmod (wrap64 ((wrap64 ((wrap64 (x0.fAt + 1)) - 1)) + 1)) (x0.fCode.length : Int)).toNat * 1) [(.int .u8 (gt x0.fCode (Int.tmod (wrap64 ((wrap64 ((wrap64 (x0.fAt + 1)) - 1)) + 1)) (x0.fCode.length : Int))))] := rd_plain hp0_0 e54
        refine dp rfl rfl rfl rfl (ex_indexAddr (d := kU8) rfl rfl rfl Tryz.underlying22 tsz5 hp0_0 (idx_lo e54) (idx_hi e54)) hS ?_
        refine drwp_take rfl (guard_none rfl) rfl rfl (fun w_ hS_ => (ex_load1 rfl rfl Tryz.underlying5 rfl ((hS_.ato hwo hc55) 0 _ rfl))) hS ?_
        refine dp rfl rfl rfl rfl (ex_conv64 rfl rfl (by rw [Tryz.underlying5]; rfl) Tryz.underlying2) hS ?_
        refine dp rfl rfl rfl rfl (ex_mul rfl rfl rfl) hS ?_
        refine dp rfl rfl rfl rfl (ex_add rfl rfl rfl) hS ?_
        refine dp rfl rfl rfl rfl (ex_move rfl rfl) hS ?_
        refine dp rfl rfl rfl rfl (ex_add rfl rfl rfl) hS ?_
        refine dp rfl rfl rfl rfl (ex_assign rfl rfl) hS ?_
        refine drwp_done ?_
        refine at_then ?_
        refine run_seq ?_
        obtain ⟨e56, H⟩ := chk_some H
        refine run_region rfl ?_
        refine ox rfl rfl rfl rfl (ex_move rfl rfl) ?_
        refine ox rfl rfl rfl rfl (ex_move rfl rfl) ?_
        refine ox rfl rfl rfl rfl (ex_remk rfl rfl rfl e56) ?_
        refine ox rfl rfl rfl rfl (ex_assign rfl rfl) ?_
        refine ops_nil (at_then ?_)
        refine run_ret ?_
        have hR := Option.some.inj H
        subst hR
        exact at_ret1 rfl rfl ⟨_, rfl, rfl, HM⟩
      · replace H := cond_f hb52 H
        refine run_skip ?_
        refine at_then ?_
        refine run_seq ?_
        obtain ⟨e57, H⟩ := chk_some H
        refine run_region rfl ?_
        refine ox rfl rfl rfl rfl (ex_move rfl rfl) ?_
        refine ox rfl rfl rfl rfl (ex_move rfl rfl) ?_
        refine ox rfl rfl rfl rfl (ex_remk rfl rfl rfl e57) ?_
        refine ox rfl rfl rfl rfl (ex_assign rfl rfl) ?_
        refine ops_nil (at_then ?_)
        refine run_ret ?_
        have hR := Option.some.inj H
        subst hR
        exact at_ret1 rfl rfl ⟨_, rfl, rfl, HM⟩

def spec_l1Pick.f (k : Nat) (x0 : l1Src) (x1 : List Int) : Option (Int × Int) := ((spec_l1Next.f k x0 (x1.length : Int)).bind fun t69 => (chk (idxOk t69.1 x1.length) (some ((gt x1 t69.1), t69.2))))
theorem spec_l1Pick.calls {k : Nat} {x0 : l1Src} {x1 : List Int} {b0 : Nat} {p0_0 : Value} {p1 : Value} {w wo : World} {X : List Nat} (hwo : Olds wo w X) (hX : Hold w [box b0 70 [p0_0, .int .i64 x0.fAt]] X) (hXn : X.Nodup) (hXl : ∀ b ∈ X, b < w.heap.size) (hp0_0 : RdS kU8 wo p0_0 x0.fCode) (hp1 : RdS kInt wo p1 x1) {r : Int × Int} (H : spec_l1Pick.f k x0 x1 = some r) :
    Calls Tryz.prog 20 ([.pointer (some ⟨b0, 0, none⟩), p1] : List Value).toArray w (fun e w_ => ∃ v, e = .returned v ∧ v = (.int .i64 r.1) ∧ Mem w X w_ [box b0 70 [p0_0, .int .i64 r.2]]) := by
  have HM := Mem.startX hX hXn hXl
  refine calls_run (N := 12) Tryz.func20 rfl rfl rfl rfl ?_
  unfold spec_l1Pick.f at H
  refine run_seq ?_
  refine run_region rfl ?_
  refine ox rfl rfl rfl rfl (ex_assign rfl rfl) ?_
  refine ops_nil (at_then (run_seq ?_))
  obtain ⟨t69, h70, H⟩ := bind_some H
  obtain ⟨e77, H⟩ := chk_some H
  refine run_region rfl ?_
  refine ox rfl rfl rfl rfl (ex_move rfl rfl) ?_
  refine ox rfl rfl rfl rfl (ex_move rfl rfl) ?_
  refine ox rfl rfl rfl rfl (ex_move rfl rfl) ?_
  refine ox rfl rfl rfl rfl (ex_len (d := kInt) (xs := x1) rfl rfl Tryz.underlying40 hp1) ?_
  obtain ⟨F71, hF72, hFn73, hFl74, HMh75, hcl76⟩ := HM.hide (Ms := [box b0 70 [p0_0, .int .i64 x0.fAt]])
  refine od rfl rfl rfl rfl (does_callk rfl callok19 rfl (spec_l1Next.calls (x0 := x0) (x1 := (x1.length : Int)) (hide_olds _ _) hF72 hFn73 hFl74 (HMh75.rdo hwo hp0_0) h70)) ?_
  rintro _ w79 ⟨rfl, hn⟩
  replace HM : Mem w X w79 [box b0 70 [p0_0, .int .i64 t69.2]] := hcl76 _ _ hn
  have hc78 : CellsAt _ (sb p1) (so p1 + (t69.1).toNat * 1) [(.int .i64 (gt x1 t69.1))] := rd_plain hp1 e77
  refine ox rfl rfl rfl rfl (ex_indexAddr (d := kInt) rfl rfl rfl Tryz.underlying40 tsz2 hp1 (idx_lo e77) (idx_hi e77)) ?_
  refine ox rfl rfl rfl rfl (ex_load1 rfl rfl Tryz.underlying2 rfl ((HM.ato hwo hc78) 0 _ rfl)) ?_
  refine ox rfl rfl rfl rfl (ex_assign rfl rfl) ?_
  refine ops_nil (at_then ?_)
  refine run_ret ?_
  have hR := Option.some.inj H
  subst hR
  exact at_ret1 rfl rfl ⟨_, rfl, rfl, HM⟩

def spec_l3Among.l0 (x0 : List Ref) (x1 : Ref) : Nat → Int → Option (Bool ⊕ Unit)
  | 0, _ => none
  | k + 1, a189 => (bif (decide (a189 < (x0.length : Int))) then (chk (idxOk a189 x0.length) (bif ((((gt x0 a189).fTx) == x1.fTx) && (((gt x0 a189).fAt) == x1.fAt)) then some (.inl true) else spec_l3Among.l0 x0 x1 k (wrap64 (a189 + 1)))) else some (.inr ()))
theorem spec_l3Among.l0_z (x0 : List Ref) (x1 : Ref) (a189 : Int) : spec_l3Among.l0 x0 x1 0 a189 = none := rfl
theorem spec_l3Among.l0_s (x0 : List Ref) (x1 : Ref) (k : Nat) (a189 : Int) : spec_l3Among.l0 x0 x1 (k + 1) a189 = (bif (decide (a189 < (x0.length : Int))) then (chk (idxOk a189 x0.length) (bif ((((gt x0 a189).fTx) == x1.fTx) && (((gt x0 a189).fAt) == x1.fAt)) then some (.inl true) else spec_l3Among.l0 x0 x1 k (wrap64 (a189 + 1)))) else some (.inr ())) := rfl
def spec_l3Among.f (k : Nat) (x0 : List Ref) (x1 : Ref) : Option Bool := ((spec_l3Among.l0 x0 x1 k 0).bind fun o183 => thn o183 (fun r => some r) (fun _ => some false))
theorem spec_l3Among.calls {k : Nat} {x0 : List Ref} {x1 : Ref} {p0 : Value} {w : World} (hp0 : RdS kRef w p0 x0) {r : Bool} (H : spec_l3Among.f k x0 x1 = some r) :
    Calls Tryz.prog 37 ([p0, .agg #[(.int .i64 x1.fTx), (.int .i64 x1.fAt)]] : List Value).toArray w (fun e w_ => ∃ v, e = .returned v ∧ v = (.bool r) ∧ Mem w [] w_ []) := by
  have HM := Mem.start w
  refine calls_run (N := 18) Tryz.func37 rfl rfl rfl rfl ?_
  unfold spec_l3Among.f at H
  refine run_seq ?_
  refine run_region rfl ?_
  refine od rfl rfl rfl rfl (does_box (cs := [.int .i64 x1.fTx, .int .i64 x1.fAt]) rfl rfl rfl HM) ?_
  rintro _ w169 ⟨b166, rfl, HM⟩
  refine ox rfl rfl rfl rfl (ex_assign rfl rfl) ?_
  refine ops_nil (at_then ?_)
  obtain ⟨o183, ho184, H⟩ := bind_some H
  refine run_mid (fun ρ_ w_ => Sum.inr () = o183 ∧ ρ_ = [] ∧ Mem w [] w_ []) ?_ ?_
  · skip
    refine run_seq ?_
    refine run_region rfl ?_
    refine ox rfl rfl rfl rfl (ex_assign rfl rfl) ?_
    refine ops_nil (at_then ?_)
    refine run_block ?_
    refine run_loop (fun k_ ρ_ w_ => ∃ a189 : Int, spec_l3Among.l0 x0 x1 k_ a189 = some o183 ∧ ρ_ = [(0, p0), (3, .pointer (some ⟨b166, 0, none⟩)), (5, .int .i64 a189)] ∧ Mem w [] w_ [box b166 62 [.int .i64 x1.fTx, .int .i64 x1.fAt]]) k (ρ1 := [(0, p0), (3, .pointer (some ⟨b166, 0, none⟩)), (5, .int .i64 0)]) ⟨_, ho184, rfl, HM⟩ (Sub.cons rfl (Sub.cons rfl (Sub.cons rfl Sub.nil))) ?_
    clear HM ho184
    rintro k194 _ w195 ⟨a189, ho184, rfl, HM⟩
    obtain _ | k194 := k194
    · exact nomatch ((spec_l3Among.l0_z x0 x1 a189).symm.trans ho184)
    replace ho184 := (spec_l3Among.l0_s x0 x1 k194 a189).symm.trans ho184
    refine run_seq ?_
    refine run_seq ?_
    refine run_region rfl ?_
    refine ox rfl rfl rfl rfl (ex_move rfl rfl) ?_
    refine ox rfl rfl rfl rfl (ex_move rfl rfl) ?_
    refine ox rfl rfl rfl rfl (ex_len (d := kRef) (xs := x0) rfl rfl Tryz.underlying25 hp0) ?_
    refine ox rfl rfl rfl rfl (ex_lss rfl rfl rfl) ?_
    refine ops_nil (at_then ?_)
    refine run_cond (b := (decide (a189 < (x0.length : Int)))) rfl (fun hb196 => ?_) (fun hb196 => ?_)
    · replace ho184 := cond_t hb196 ho184
      refine run_skip ?_
      refine at_then ?_
      refine run_seq ?_
      refine run_block ?_
      refine run_seq ?_
      obtain ⟨e197, ho184⟩ := chk_some ho184
      refine run_drawf (fun w_ => Mem w [] w_ [box b166 62 [.int .i64 x1.fTx, .int .i64 x1.fAt]]) [(0, true), (1, true), (2, true), (3, true), (4, true), (5, true)] mixed rfl rfl (by kernel_rfl) ?_
      replace HM := HM.grow (fr_drew _)
      have hS := Mem.suf (M := []) HM
      refine dp rfl rfl rfl rfl (ex_move rfl rfl) hS ?_
      refine dp rfl rfl rfl rfl (ex_move rfl rfl) hS ?_
      have hc198 : CellsAt _ (sb p0) (so p0 + (a189).toNat * 2) [(.int .i64 ((gt x0 a189).fTx)), (.int .i64 ((gt x0 a189).fAt))] := rd_plain hp0 e197
      refine dp rfl rfl rfl rfl (ex_indexAddr (d := kRef) rfl rfl rfl Tryz.underlying25 tsz62 hp0 (idx_lo e197) (idx_hi e197)) hS ?_
      refine drwp_take rfl (guard_none rfl) rfl rfl (fun w_ hS_ => (ex_loadN (cs := [(.int .i64 ((gt x0 a189).fTx)), (.int .i64 ((gt x0 a189).fAt))]) rfl rfl Tryz.underlying62 rfl tsz62 rfl ((hS_.at_ hc198).sub 0 2 rfl))) hS ?_
      refine drwp_take rfl (guard_none rfl) rfl rfl (fun w_ hS_ => (ex_loadN (cs := [(.int .i64 x1.fTx), (.int .i64 x1.fAt)]) rfl rfl Tryz.underlying62 rfl tsz62 rfl ((hS_.box_at 0 rfl).sub 0 2 rfl))) hS ?_
      refine dp rfl rfl rfl rfl (ex_aeql rfl rfl rfl (by kernel_rfl) (eqs62 _ _ _ _ _)) hS ?_
      refine drwp_done ?_
      refine at_then ?_
      refine run_cond (b := ((((gt x0 a189).fTx) == x1.fTx) && (((gt x0 a189).fAt) == x1.fAt))) rfl (fun hb199 => ?_) (fun hb199 => ?_)
      · replace ho184 := cond_t hb199 ho184
        refine run_seq ?_
        refine run_region rfl ?_
        refine ox rfl rfl rfl rfl (ex_assign rfl rfl) ?_
        refine ops_nil (at_then ?_)
        refine run_ret ?_
        refine at_block_ret ?_
        refine at_then_ret ?_
        refine at_then_ret ?_
        refine at_block_ret ?_
        refine at_then_ret ?_
        replace HM := (HM.front 0 rfl rfl).drop
        have hR := Option.some.inj ho184
        subst hR
        have hT := thn_inl H
        have hR := Option.some.inj hT
        subst hR
        exact at_ret1 rfl rfl ⟨_, rfl, rfl, HM⟩
      · replace ho184 := cond_f hb199 ho184
        refine run_skip ?_
        refine at_block ?_
        refine at_then ?_
        refine run_region rfl ?_
        refine ox rfl rfl rfl rfl (ex_move rfl rfl) ?_
        refine ox rfl rfl rfl rfl (ex_add rfl rfl rfl) ?_
        refine ox rfl rfl rfl rfl (ex_assign rfl rfl) ?_
        refine ops_nil ?_
        exact at_again k194 (ρ1 := [(0, p0), (3, .pointer (some ⟨b166, 0, none⟩)), (5, .int .i64 (wrap64 (a189 + 1)))]) (Nat.lt_succ_self _) ⟨_, ho184, rfl, HM⟩ (Sub.cons rfl (Sub.cons rfl (Sub.cons rfl Sub.nil)))
    · replace ho184 := cond_f hb196 ho184
      refine run_exit ?_
      refine at_then_exit ?_
      refine at_then_exit ?_
      refine at_block_exit ?_
      replace HM := (HM.front 0 rfl rfl).drop
      exact at_mid (ρ' := []) ⟨(Option.some.inj ho184), rfl, HM⟩ Sub.nil
  · rintro _ w200 ⟨rfl, rfl, HM⟩
    replace H := (thn_inr H)
    refine run_seq ?_
    refine run_region rfl ?_
    refine ox rfl rfl rfl rfl (ex_assign rfl rfl) ?_
    refine ops_nil (at_then ?_)
    refine run_ret ?_
    have hR := Option.some.inj H
    subst hR
    exact at_ret1 rfl rfl ⟨_, rfl, rfl, HM⟩

def spec_l2Draw.l0 (x0 : l1Src) : Nat → Int → (List Int) → Int → Option (Int × (List Int))
  | 0, _, _, _ => none
  | k + 1, a559, a561, a563 => (bif (decide (0 < a563)) then (chk (idxOk (wrap64 ((a561.length : Int) - 1)) a561.length) ((spec_l1Next.f k (⟨x0.fCode, a559⟩ : l1Src) 2).bind fun t584 => (chk (leB ((a561.length + ([wrap64 ((wrap64 ((gt a561 (wrap64 ((a561.length : Int) - 1))) + 1)) + t584.1)] : List Int).length) * 8) 140737488355328) (spec_l2Draw.l0 x0 k t584.2 (a561 ++ ([wrap64 ((wrap64 ((gt a561 (wrap64 ((a561.length : Int) - 1))) + 1)) + t584.1)] : List Int)) (wrap64 (a563 - 1)))))) else some (a559, a561))
theorem spec_l2Draw.l0_z (x0 : l1Src) (a559 : Int) (a561 : List Int) (a563 : Int) : spec_l2Draw.l0 x0 0 a559 a561 a563 = none := rfl
theorem spec_l2Draw.l0_s (x0 : l1Src) (k : Nat) (a559 : Int) (a561 : List Int) (a563 : Int) : spec_l2Draw.l0 x0 (k + 1) a559 a561 a563 = (bif (decide (0 < a563)) then (chk (idxOk (wrap64 ((a561.length : Int) - 1)) a561.length) ((spec_l1Next.f k (⟨x0.fCode, a559⟩ : l1Src) 2).bind fun t584 => (chk (leB ((a561.length + ([wrap64 ((wrap64 ((gt a561 (wrap64 ((a561.length : Int) - 1))) + 1)) + t584.1)] : List Int).length) * 8) 140737488355328) (spec_l2Draw.l0 x0 k t584.2 (a561 ++ ([wrap64 ((wrap64 ((gt a561 (wrap64 ((a561.length : Int) - 1))) + 1)) + t584.1)] : List Int)) (wrap64 (a563 - 1)))))) else some (a559, a561)) := rfl
def spec_l2Draw.f (k : Nat) (x0 : l1Src) : Option (Rule × Int) := ((spec_l1Next.f k x0 3).bind fun t449 => (((spec_l1Next.f k (⟨x0.fCode, t449.2⟩ : l1Src) 3).bind fun t534 => spec_l2Draw.l0 x0 k t534.2 ([wrap64 (1 + t449.1)] : List Int) t534.1).bind (cur2 (fun a528 a530 => ((spec_l1Next.f k (⟨x0.fCode, a528⟩ : l1Src) (a530.length : Int)).bind fun t666 => ((spec_l1Next.f k (⟨x0.fCode, t666.2⟩ : l1Src) 9).bind fun t676 => ((spec_l1Pick.f k (⟨x0.fCode, t676.2⟩ : l1Src) ([0, 0, 0, t676.1] : List Int)).bind fun t687 => some ((⟨a530, wrap64 (1 + t666.1), t687.1⟩ : Rule), t687.2))))))))
theorem spec_l2Draw.calls {k : Nat} {x0 : l1Src} {b0 : Nat} {p0_0 : Value} {w wo : World} {X : List Nat} (hwo : Olds wo w X) (hX : Hold w [box b0 70 [p0_0, .int .i64 x0.fAt]] X) (hXn : X.Nodup) (hXl : ∀ b ∈ X, b < w.heap.size) (hp0_0 : RdS kU8 wo p0_0 x0.fCode) {r : Rule × Int} (H : spec_l2Draw.f k x0 = some r) :
    Calls Tryz.prog 38 ([.pointer (some ⟨b0, 0, none⟩)] : List Value).toArray w (fun e w_ => ∃ v, e = .returned v ∧ ∃ u0 : Value, v = (.agg #[u0, .int .i64 r.1.fNeed, .int .i64 r.1.fAfter]) ∧ Mem w X w_ [own kInt 2 u0 r.1.fKeys, box b0 70 [p0_0, .int .i64 r.2]]) := by
  have HM := Mem.startX hX hXn hXl
  refine calls_run (N := 47) Tryz.func38 rfl rfl rfl rfl ?_
  unfold spec_l2Draw.f at H
  refine run_seq ?_
  refine run_region rfl ?_
  refine od rfl rfl rfl rfl (does_alloc (cs := [.slice none 0 0, .int .i64 0, .int .i64 0]) rfl tz42 rfl HM) ?_
  rintro _ w448 ⟨b445, rfl, HM⟩
  refine ops_nil (at_then (run_seq ?_))
  obtain ⟨t449, h450, H⟩ := bind_some H
  refine run_region rfl ?_
  refine ox rfl rfl rfl rfl (ex_move rfl rfl) ?_
  replace HM := HM.front 1 rfl rfl
  obtain ⟨F451, hF452, hFn453, hFl454, HMh455, hcl456⟩ := HM.hide (Ms := [box b0 70 [p0_0, .int .i64 x0.fAt]])
  refine od rfl rfl rfl rfl (does_callk rfl callok19 rfl (spec_l1Next.calls (x0 := x0) (x1 := 3) (hide_olds _ _) hF452 hFn453 hFl454 (HMh455.rdo hwo hp0_0) h450)) ?_
  rintro _ w463 ⟨rfl, hn⟩
  replace HM : Mem w X w463 [box b0 70 [p0_0, .int .i64 t449.2], box b445 42 [.slice none 0 0, .int .i64 0, .int .i64 0]] := hcl456 _ _ hn
  refine ox rfl rfl rfl rfl (ex_add rfl rfl rfl) ?_
  refine od rfl rfl rfl rfl (does_lit (e := 2) (cs := [.int .i64 (wrap64 (1 + t449.1))]) (xs := ([wrap64 (1 + t449.1)] : List Int)) kInt rfl rfl (fun _ => by kernel_rfl) rfl rfl (fun _ _ h => by have h' : _ = [] := h; subst h'; exact (Elems.cons (d := kInt) (x := wrap64 (1 + t449.1)) (f := []) ⟨rfl, rfl⟩ .nil)) HM.emp) ?_
  rintro v457 w464 HM
  refine ox rfl rfl rfl rfl (ex_build1 (fun v457 => [(0, v457)]) (fun v457 => #[v457, .int .i64 0, .int .i64 0]) rfl rfl (fun _ _ _ => by kernel_rfl) (HM.own_rd 0 rfl).isSl) ?_
  refine od rfl rfl rfl rfl (does_alloc (cs := [.slice none 0 0, .int .i64 0, .int .i64 0]) rfl tz42 rfl HM) ?_
  rintro _ w465 ⟨b460, rfl, HM⟩
  refine odS rfl rfl rfl (does_store (vs := [v457, .int .i64 0, .int .i64 0]) (cs' := [v457, .int .i64 0, .int .i64 0]) rfl rfl rfl rfl tsz42 (Ones.rd (HM.own_rd 1 rfl) (Ones.int (Ones.int Ones.nil))) rfl rfl HM) ?_
  rintro w466 HM
  refine ops_nil (at_then ?_)
  obtain ⟨o532, ho533, H⟩ := bind_some H
  refine run_mid (fun ρ_ w_ => ∃ a528 : Int, ∃ v529 : Value, ∃ a530 : List Int, (a528, a530) = o532 ∧ ρ_ = [(0, .pointer (some ⟨b0, 0, none⟩)), (2, .pointer (some ⟨b445, 0, none⟩)), (3, .pointer (some ⟨b460, 0, none⟩))] ∧ Mem w X w_ [box b0 70 [p0_0, .int .i64 a528], box b445 42 [.slice none 0 0, .int .i64 0, .int .i64 0], box b460 42 [v529, .int .i64 0, .int .i64 0], own kInt 2 v529 a530]) ?_ ?_
  · clear H
    refine run_seq ?_
    obtain ⟨t534, h535, ho533⟩ := bind_some ho533
    refine run_region rfl ?_
    refine ox rfl rfl rfl rfl (ex_move rfl rfl) ?_
    replace HM := HM.front 2 rfl rfl
    obtain ⟨F536, hF537, hFn538, hFl539, HMh540, hcl541⟩ := HM.hide (Ms := [box b0 70 [p0_0, .int .i64 t449.2]])
    refine od rfl rfl rfl rfl (does_callk rfl callok19 rfl (spec_l1Next.calls (x0 := (⟨x0.fCode, t449.2⟩ : l1Src)) (x1 := 3) (hide_olds _ _) hF537 hFn538 hFl539 (HMh540.rdo hwo hp0_0) h535)) ?_
    rintro _ w542 ⟨rfl, hn⟩
    replace HM : Mem w X w542 [box b0 70 [p0_0, .int .i64 t534.2], box b460 42 [v457, .int .i64 0, .int .i64 0], own kInt 2 v457 ([wrap64 (1 + t449.1)] : List Int), box b445 42 [.slice none 0 0, .int .i64 0, .int .i64 0]] := hcl541 _ _ hn
    refine ox rfl rfl rfl rfl (ex_assign rfl rfl) ?_
    refine ops_nil (at_then ?_)
    refine run_block ?_
    replace HM := HM.front 2 rfl rfl
    replace HM := HM.front 2 rfl rfl
    replace HM := HM.front 3 rfl rfl
    replace HM := HM.front 3 rfl rfl
    refine run_loop (fun k_ ρ_ w_ => ∃ a559 : Int, ∃ v560 : Value, ∃ a561 : List Int, ∃ a563 : Int, spec_l2Draw.l0 x0 k_ a559 a561 a563 = some o532 ∧ ρ_ = [(0, .pointer (some ⟨b0, 0, none⟩)), (2, .pointer (some ⟨b445, 0, none⟩)), (3, .pointer (some ⟨b460, 0, none⟩)), (4, .int .i64 a563)] ∧ Mem w X w_ [box b0 70 [p0_0, .int .i64 a559], box b445 42 [.slice none 0 0, .int .i64 0, .int .i64 0], box b460 42 [v560, .int .i64 0, .int .i64 0], own kInt 2 v560 a561]) k (ρ1 := [(0, .pointer (some ⟨b0, 0, none⟩)), (2, .pointer (some ⟨b445, 0, none⟩)), (3, .pointer (some ⟨b460, 0, none⟩)), (4, .int .i64 t534.1)]) ⟨_, _, _, _, ho533, rfl, HM⟩ (Sub.cons rfl (Sub.cons rfl (Sub.cons rfl (Sub.cons rfl Sub.nil)))) ?_
    clear HM ho533
    rintro k580 _ w581 ⟨a559, v560, a561, a563, ho533, rfl, HM⟩
    obtain _ | k580 := k580
    · exact nomatch ((spec_l2Draw.l0_z x0 a559 a561 a563).symm.trans ho533)
    replace ho533 := (spec_l2Draw.l0_s x0 k580 a559 a561 a563).symm.trans ho533
    refine run_seq ?_
    refine run_seq ?_
    refine run_region rfl ?_
    refine ox rfl rfl rfl rfl (ex_move rfl rfl) ?_
    refine ox rfl rfl rfl rfl (ex_gtr rfl rfl rfl) ?_
    refine ops_nil (at_then ?_)
    refine run_cond (b := (decide (0 < a563))) rfl (fun hb582 => ?_) (fun hb582 => ?_)
    · replace ho533 := cond_t hb582 ho533
      refine run_skip ?_
      refine at_then ?_
      refine run_seq ?_
      refine run_block ?_
      obtain ⟨e583, ho533⟩ := chk_some ho533
      obtain ⟨t584, h585, ho533⟩ := bind_some ho533
      obtain ⟨e595, ho533⟩ := chk_some ho533
      refine run_meet (fun ρ_ w_ => ∃ v596 : Value, ρ_ = [(0, .pointer (some ⟨b0, 0, none⟩)), (2, .pointer (some ⟨b445, 0, none⟩)), (3, .pointer (some ⟨b460, 0, none⟩)), (4, .int .i64 a563)] ∧ Mem w X w_ [box b0 70 [p0_0, .int .i64 t584.2], box b445 42 [.slice none 0 0, .int .i64 0, .int .i64 0], box b460 42 [v596, .int .i64 0, .int .i64 0], own kInt 2 v596 (a561 ++ ([wrap64 ((wrap64 ((gt a561 (wrap64 ((a561.length : Int) - 1))) + 1)) + t584.1)] : List Int))]) ?_ ?_
      · skip
        replace HM := HM.front 3 rfl rfl
        replace HM := HM.front 3 rfl rfl
        replace HM := HM.front 2 rfl rfl
        refine run_draw (fun w_ => Mem w X w_ [box b445 42 [.slice none 0 0, .int .i64 0, .int .i64 0]]) mixed rfl (l := #[false, false, false, false, false, false, false, false, false, false, false, false, false, false, false, false, false, false]) rfl ?_
        replace HM := HM.grow (fr_drew _)
        have hS := Mem.suf (M := [box b0 70 [p0_0, .int .i64 a559], box b460 42 [v560, .int .i64 0, .int .i64 0], own kInt 2 v560 a561]) HM
        refine drw_cut1 (l' := (bs 18 32767)) (f' := 3) (fun (v592 : Value) => [(0, .pointer (some ⟨b0, 0, none⟩)), (2, .pointer (some ⟨b445, 0, none⟩)), (3, .pointer (some ⟨b460, 0, none⟩)), (4, .int .i64 a563), (17, v560), (30, v592)]) (fun (v592 : Value) => fun w_ => Mem w X w_ [own kInt 2 v592 ([wrap64 ((wrap64 ((gt a561 (wrap64 ((a561.length : Int) - 1))) + 1)) + t584.1)] : List Int), box b0 70 [p0_0, .int .i64 t584.2], box b460 42 [v560, .int .i64 0, .int .i64 0], own kInt 2 v560 a561, box b445 42 [.slice none 0 0, .int .i64 0, .int .i64 0]]) ?_ (fun K612 => ?_)
        · rintro v592 w613 HM
          replace HM : Mem w X w613 [own kInt 2 v592 ([wrap64 ((wrap64 ((gt a561 (wrap64 ((a561.length : Int) - 1))) + 1)) + t584.1)] : List Int), box b0 70 [p0_0, .int .i64 t584.2], box b460 42 [v560, .int .i64 0, .int .i64 0], own kInt 2 v560 a561, box b445 42 [.slice none 0 0, .int .i64 0, .int .i64 0]] := HM
          have hS := Mem.suf (M := [own kInt 2 v592 ([wrap64 ((wrap64 ((gt a561 (wrap64 ((a561.length : Int) - 1))) + 1)) + t584.1)] : List Int), box b0 70 [p0_0, .int .i64 t584.2], box b460 42 [v560, .int .i64 0, .int .i64 0], own kInt 2 v560 a561]) HM
          replace HM := HM.front 3 rfl rfl
          refine drw_any [15] (by kernel_rfl) rfl (.cons ?_ .nil)
          refine br_does (l' := (bs 18 65535)) rfl (guard_none rfl) rfl rfl (by kernel_rfl) (does_appendR kInt flat_plain rfl rfl rfl Tryz.underlying40 tsz2 rfl tby2 tz2 rfl rfl (leB_le e595) (HM.own_rd 1 rfl) HM) ?_
          rintro v596 w614 HM
          have hS := Mem.suf (M := [own kInt 2 v596 (a561 ++ ([wrap64 ((wrap64 ((gt a561 (wrap64 ((a561.length : Int) - 1))) + 1)) + t584.1)] : List Int)), own kInt 2 v592 ([wrap64 ((wrap64 ((gt a561 (wrap64 ((a561.length : Int) - 1))) + 1)) + t584.1)] : List Int), box b0 70 [p0_0, .int .i64 t584.2], box b460 42 [v560, .int .i64 0, .int .i64 0]]) HM
          refine ⟨hS, ?_⟩
          refine dt 16 (bs 18 131071) rfl rfl rfl rfl (by kernel_rfl) (ex_fieldAddr (off' := 0) rfl rfl Tryz.underlying42 rfl tsz40 rfl) hS ?_
          replace HM := HM.front 3 rfl rfl
          refine drw_any [17] (by kernel_rfl) rfl (.cons ?_ .nil)
          refine br_doesS (l' := (bs 18 262143)) rfl (guard_none rfl) rfl (by kernel_rfl) (does_store (vs := [v596]) (cs' := [v596, .int .i64 0, .int .i64 0]) rfl rfl rfl (rd_cells (HM.own_rd 1 rfl)) tsz40 (Ones.rd (HM.own_rd 1 rfl) Ones.nil) rfl rfl HM) ?_
          rintro w615 HM
          have hS := Mem.suf (M := [box b460 42 [v596, .int .i64 0, .int .i64 0], own kInt 2 v596 (a561 ++ ([wrap64 ((wrap64 ((gt a561 (wrap64 ((a561.length : Int) - 1))) + 1)) + t584.1)] : List Int)), own kInt 2 v592 ([wrap64 ((wrap64 ((gt a561 (wrap64 ((a561.length : Int) - 1))) + 1)) + t584.1)] : List Int), box b0 70 [p0_0, .int .i64 t584.2]]) HM
          refine ⟨hS, ?_⟩
          refine drw_done (by kernel_rfl) ?_
          replace HM := (HM.front 2 rfl rfl).drop
          replace HM := HM.front 1 rfl rfl
          replace HM := HM.front 1 rfl rfl
          replace HM := HM.front 3 rfl rfl
          replace HM := HM.front 3 rfl rfl
          exact at_meet [(0, .pointer (some ⟨b0, 0, none⟩)), (2, .pointer (some ⟨b445, 0, none⟩)), (3, .pointer (some ⟨b460, 0, none⟩)), (4, .int .i64 a563)] ⟨_, rfl, HM⟩ (Sub.cons rfl (Sub.cons rfl (Sub.cons rfl (Sub.cons rfl Sub.nil))))
        refine drw_cut0 (l' := (bs 18 16383)) (f' := 4) ([(0, .pointer (some ⟨b0, 0, none⟩)), (2, .pointer (some ⟨b445, 0, none⟩)), (3, .pointer (some ⟨b460, 0, none⟩)), (4, .int .i64 a563), (17, v560), (29, .int .i64 (wrap64 ((wrap64 ((gt a561 (wrap64 ((a561.length : Int) - 1))) + 1)) + t584.1)))]) (fun w_ => Mem w X w_ [box b0 70 [p0_0, .int .i64 t584.2], box b460 42 [v560, .int .i64 0, .int .i64 0], own kInt 2 v560 a561, box b445 42 [.slice none 0 0, .int .i64 0, .int .i64 0]]) ?_ (fun K616 => ?_)
        · rintro w617 HM
          replace HM : Mem w X w617 [box b0 70 [p0_0, .int .i64 t584.2], box b460 42 [v560, .int .i64 0, .int .i64 0], own kInt 2 v560 a561, box b445 42 [.slice none 0 0, .int .i64 0, .int .i64 0]] := HM
          have hS := Mem.suf (M := [box b0 70 [p0_0, .int .i64 t584.2], box b460 42 [v560, .int .i64 0, .int .i64 0], own kInt 2 v560 a561]) HM
          refine drw_any [14] (by kernel_rfl) rfl (.cons ?_ .nil)
          refine br_does (l' := (bs 18 32767)) rfl (guard_none rfl) rfl rfl (by kernel_rfl) (does_lit (e := 2) (cs := [.int .i64 (wrap64 ((wrap64 ((gt a561 (wrap64 ((a561.length : Int) - 1))) + 1)) + t584.1))]) (xs := ([wrap64 ((wrap64 ((gt a561 (wrap64 ((a561.length : Int) - 1))) + 1)) + t584.1)] : List Int)) kInt rfl rfl (fun _ => by kernel_rfl) rfl rfl (fun _ _ h => by have h' : _ = [] := h; subst h'; exact (Elems.cons (d := kInt) (x := wrap64 ((wrap64 ((gt a561 (wrap64 ((a561.length : Int) - 1))) + 1)) + t584.1)) (f := []) ⟨rfl, rfl⟩ .nil)) HM.emp) ?_
          rintro v592 w618 HM
          have hS := Mem.suf (M := [own kInt 2 v592 ([wrap64 ((wrap64 ((gt a561 (wrap64 ((a561.length : Int) - 1))) + 1)) + t584.1)] : List Int), box b0 70 [p0_0, .int .i64 t584.2], box b460 42 [v560, .int .i64 0, .int .i64 0], own kInt 2 v560 a561]) HM
          refine ⟨hS, ?_⟩
          exact drw_sub (K612 v592 _ HM) (Sub.cons rfl (Sub.cons rfl (Sub.cons rfl (Sub.cons rfl (Sub.cons rfl (Sub.cons rfl Sub.nil))))))
        refine drw_cut0 (l' := (bs 18 8191)) (f' := 5) ([(0, .pointer (some ⟨b0, 0, none⟩)), (2, .pointer (some ⟨b445, 0, none⟩)), (3, .pointer (some ⟨b460, 0, none⟩)), (4, .int .i64 a563), (17, v560), (26, .int .i64 (wrap64 ((gt a561 (wrap64 ((a561.length : Int) - 1))) + 1))), (28, .int .i64 t584.1)]) (fun w_ => Mem w X w_ [box b0 70 [p0_0, .int .i64 t584.2], box b460 42 [v560, .int .i64 0, .int .i64 0], own kInt 2 v560 a561, box b445 42 [.slice none 0 0, .int .i64 0, .int .i64 0]]) ?_ (fun K619 => ?_)
        · rintro w620 HM
          replace HM : Mem w X w620 [box b0 70 [p0_0, .int .i64 t584.2], box b460 42 [v560, .int .i64 0, .int .i64 0], own kInt 2 v560 a561, box b445 42 [.slice none 0 0, .int .i64 0, .int .i64 0]] := HM
          have hS := Mem.suf (M := [box b0 70 [p0_0, .int .i64 t584.2], box b460 42 [v560, .int .i64 0, .int .i64 0], own kInt 2 v560 a561]) HM
          refine dt 13 (bs 18 16383) rfl rfl rfl rfl (by kernel_rfl) (ex_add rfl rfl rfl) hS ?_
          exact drw_sub (K616 _ HM) (Sub.cons rfl (Sub.cons rfl (Sub.cons rfl (Sub.cons rfl (Sub.cons rfl (Sub.cons rfl Sub.nil))))))
        refine drw_cut0 (l' := (bs 18 4095)) (f' := 6) ([(0, .pointer (some ⟨b0, 0, none⟩)), (2, .pointer (some ⟨b445, 0, none⟩)), (3, .pointer (some ⟨b460, 0, none⟩)), (4, .int .i64 a563), (27, .pointer (some ⟨b0, 0, none⟩)), (17, v560), (26, .int .i64 (wrap64 ((gt a561 (wrap64 ((a561.length : Int) - 1))) + 1)))]) (fun w_ => Mem w X w_ [box b0 70 [p0_0, .int .i64 a559], box b460 42 [v560, .int .i64 0, .int .i64 0], own kInt 2 v560 a561, box b445 42 [.slice none 0 0, .int .i64 0, .int .i64 0]]) ?_ (fun K621 => ?_)
        · rintro w622 HM
          replace HM : Mem w X w622 [box b0 70 [p0_0, .int .i64 a559], box b460 42 [v560, .int .i64 0, .int .i64 0], own kInt 2 v560 a561, box b445 42 [.slice none 0 0, .int .i64 0, .int .i64 0]] := HM
          have hS := Mem.suf (M := [box b0 70 [p0_0, .int .i64 a559], box b460 42 [v560, .int .i64 0, .int .i64 0], own kInt 2 v560 a561]) HM
          obtain ⟨F586, hF587, hFn588, hFl589, HMh590, hcl591⟩ := HM.hide (Ms := [box b0 70 [p0_0, .int .i64 a559]])
          refine drw_any [12] (by kernel_rfl) rfl (.cons ?_ .nil)
          refine br_does (l' := (bs 18 8191)) rfl (guard_none rfl) rfl rfl (by kernel_rfl) (does_callk rfl callok19 rfl (spec_l1Next.calls (x0 := (⟨x0.fCode, a559⟩ : l1Src)) (x1 := 2) (hide_olds _ _) hF587 hFn588 hFl589 (HMh590.rdo hwo hp0_0) h585)) ?_
          rintro _ w623 ⟨rfl, hn⟩
          replace HM : Mem w X w623 [box b0 70 [p0_0, .int .i64 t584.2], box b460 42 [v560, .int .i64 0, .int .i64 0], own kInt 2 v560 a561, box b445 42 [.slice none 0 0, .int .i64 0, .int .i64 0]] := hcl591 _ _ hn
          have hS := Mem.suf (M := [box b0 70 [p0_0, .int .i64 t584.2], box b460 42 [v560, .int .i64 0, .int .i64 0], own kInt 2 v560 a561]) HM
          refine ⟨hS, ?_⟩
          exact drw_sub (K619 _ HM) (Sub.cons rfl (Sub.cons rfl (Sub.cons rfl (Sub.cons rfl (Sub.cons rfl (Sub.cons rfl (Sub.cons rfl Sub.nil)))))))
        refine drw_cut0 (l' := (bs 18 8189)) (f' := 6) ([(0, .pointer (some ⟨b0, 0, none⟩)), (2, .pointer (some ⟨b445, 0, none⟩)), (3, .pointer (some ⟨b460, 0, none⟩)), (4, .int .i64 a563), (16, .pointer (some ⟨b460, 0, none⟩)), (26, .int .i64 (wrap64 ((gt a561 (wrap64 ((a561.length : Int) - 1))) + 1))), (28, .int .i64 t584.1)]) (fun w_ => Mem w X w_ [box b0 70 [p0_0, .int .i64 t584.2], box b460 42 [v560, .int .i64 0, .int .i64 0], own kInt 2 v560 a561, box b445 42 [.slice none 0 0, .int .i64 0, .int .i64 0]]) ?_ (fun K624 => ?_)
        · rintro w625 HM
          replace HM : Mem w X w625 [box b0 70 [p0_0, .int .i64 t584.2], box b460 42 [v560, .int .i64 0, .int .i64 0], own kInt 2 v560 a561, box b445 42 [.slice none 0 0, .int .i64 0, .int .i64 0]] := HM
          have hS := Mem.suf (M := [box b0 70 [p0_0, .int .i64 t584.2], box b460 42 [v560, .int .i64 0, .int .i64 0], own kInt 2 v560 a561]) HM
          refine dt 13 (bs 18 16381) rfl rfl rfl rfl (by kernel_rfl) (ex_add rfl rfl rfl) hS ?_
          refine drw_any [1, 14] (by kernel_rfl) rfl (.cons ?_ (.cons ?_ .nil))
          · skip
            refine br_does (l' := (bs 18 16383)) rfl (guard_none rfl) rfl rfl (by kernel_rfl) (does_ex' (ex_load1 rfl rfl Tryz.underlying40 rfl ((HM.box_at 1 rfl) 0 _ rfl))) ?_
            rintro _ _ ⟨rfl, rfl⟩
            refine ⟨hS, ?_⟩
            exact drw_sub (K616 _ HM) (Sub.cons rfl (Sub.cons rfl (Sub.cons rfl (Sub.cons rfl (Sub.cons rfl (Sub.cons rfl Sub.nil))))))
          · skip
            refine br_does (l' := (bs 18 32765)) rfl (guard_none rfl) rfl rfl (by kernel_rfl) (does_lit (e := 2) (cs := [.int .i64 (wrap64 ((wrap64 ((gt a561 (wrap64 ((a561.length : Int) - 1))) + 1)) + t584.1))]) (xs := ([wrap64 ((wrap64 ((gt a561 (wrap64 ((a561.length : Int) - 1))) + 1)) + t584.1)] : List Int)) kInt rfl rfl (fun _ => by kernel_rfl) rfl rfl (fun _ _ h => by have h' : _ = [] := h; subst h'; exact (Elems.cons (d := kInt) (x := wrap64 ((wrap64 ((gt a561 (wrap64 ((a561.length : Int) - 1))) + 1)) + t584.1)) (f := []) ⟨rfl, rfl⟩ .nil)) HM.emp) ?_
            rintro v592 w626 HM
            have hS := Mem.suf (M := [own kInt 2 v592 ([wrap64 ((wrap64 ((gt a561 (wrap64 ((a561.length : Int) - 1))) + 1)) + t584.1)] : List Int), box b0 70 [p0_0, .int .i64 t584.2], box b460 42 [v560, .int .i64 0, .int .i64 0], own kInt 2 v560 a561]) HM
            refine ⟨hS, ?_⟩
            refine drw_any [1] (by kernel_rfl) rfl (.cons ?_ .nil)
            refine br_does (l' := (bs 18 32767)) rfl (guard_none rfl) rfl rfl (by kernel_rfl) (does_ex' (ex_load1 rfl rfl Tryz.underlying40 rfl ((HM.box_at 2 rfl) 0 _ rfl))) ?_
            rintro _ _ ⟨rfl, rfl⟩
            refine ⟨hS, ?_⟩
            exact drw_sub (K612 v592 _ HM) (Sub.cons rfl (Sub.cons rfl (Sub.cons rfl (Sub.cons rfl (Sub.cons rfl (Sub.cons rfl Sub.nil))))))
        refine drw_cut0 (l' := (bs 18 6655)) (f' := 7) ([(0, .pointer (some ⟨b0, 0, none⟩)), (2, .pointer (some ⟨b445, 0, none⟩)), (3, .pointer (some ⟨b460, 0, none⟩)), (4, .int .i64 a563), (17, v560), (24, .pointer (some ⟨sb v560, so v560 + (wrap64 ((a561.length : Int) - 1)).toNat * 1, none⟩)), (28, .int .i64 t584.1)]) (fun w_ => Mem w X w_ [box b0 70 [p0_0, .int .i64 t584.2], box b460 42 [v560, .int .i64 0, .int .i64 0], own kInt 2 v560 a561, box b445 42 [.slice none 0 0, .int .i64 0, .int .i64 0]]) ?_ (fun K627 => ?_)
        · rintro w628 HM
          replace HM : Mem w X w628 [box b0 70 [p0_0, .int .i64 t584.2], box b460 42 [v560, .int .i64 0, .int .i64 0], own kInt 2 v560 a561, box b445 42 [.slice none 0 0, .int .i64 0, .int .i64 0]] := HM
          have hS := Mem.suf (M := [box b0 70 [p0_0, .int .i64 t584.2], box b460 42 [v560, .int .i64 0, .int .i64 0], own kInt 2 v560 a561]) HM
          refine drw_any [9] (by kernel_rfl) rfl (.cons ?_ .nil)
          refine br_does (l' := (bs 18 7167)) rfl (guard_none rfl) rfl rfl (by kernel_rfl) (does_ex' (ex_load1 rfl rfl Tryz.underlying2 rfl ((rd_plain (HM.own_rd 2 rfl) e583) 0 _ rfl))) ?_
          rintro _ _ ⟨rfl, rfl⟩
          refine ⟨hS, ?_⟩
          refine dt 10 (bs 18 8191) rfl rfl rfl rfl (by kernel_rfl) (ex_add rfl rfl rfl) hS ?_
          exact drw_sub (K619 _ HM) (Sub.cons rfl (Sub.cons rfl (Sub.cons rfl (Sub.cons rfl (Sub.cons rfl (Sub.cons rfl (Sub.cons rfl Sub.nil)))))))
        refine drw_cut0 (l' := (bs 18 2559)) (f' := 8) ([(0, .pointer (some ⟨b0, 0, none⟩)), (2, .pointer (some ⟨b445, 0, none⟩)), (3, .pointer (some ⟨b460, 0, none⟩)), (4, .int .i64 a563), (27, .pointer (some ⟨b0, 0, none⟩)), (17, v560), (24, .pointer (some ⟨sb v560, so v560 + (wrap64 ((a561.length : Int) - 1)).toNat * 1, none⟩))]) (fun w_ => Mem w X w_ [box b0 70 [p0_0, .int .i64 a559], box b460 42 [v560, .int .i64 0, .int .i64 0], own kInt 2 v560 a561, box b445 42 [.slice none 0 0, .int .i64 0, .int .i64 0]]) ?_ (fun K629 => ?_)
        · rintro w630 HM
          replace HM : Mem w X w630 [box b0 70 [p0_0, .int .i64 a559], box b460 42 [v560, .int .i64 0, .int .i64 0], own kInt 2 v560 a561, box b445 42 [.slice none 0 0, .int .i64 0, .int .i64 0]] := HM
          have hS := Mem.suf (M := [box b0 70 [p0_0, .int .i64 a559], box b460 42 [v560, .int .i64 0, .int .i64 0], own kInt 2 v560 a561]) HM
          refine drw_any [9, 12] (by kernel_rfl) rfl (.cons ?_ (.cons ?_ .nil))
          · skip
            refine br_does (l' := (bs 18 3071)) rfl (guard_none rfl) rfl rfl (by kernel_rfl) (does_ex' (ex_load1 rfl rfl Tryz.underlying2 rfl ((rd_plain (HM.own_rd 2 rfl) e583) 0 _ rfl))) ?_
            rintro _ _ ⟨rfl, rfl⟩
            refine ⟨hS, ?_⟩
            refine dt 10 (bs 18 4095) rfl rfl rfl rfl (by kernel_rfl) (ex_add rfl rfl rfl) hS ?_
            exact drw_sub (K621 _ HM) (Sub.cons rfl (Sub.cons rfl (Sub.cons rfl (Sub.cons rfl (Sub.cons rfl (Sub.cons rfl (Sub.cons rfl Sub.nil)))))))
          · skip
            obtain ⟨F586, hF587, hFn588, hFl589, HMh590, hcl591⟩ := HM.hide (Ms := [box b0 70 [p0_0, .int .i64 a559]])
            refine br_does (l' := (bs 18 6655)) rfl (guard_none rfl) rfl rfl (by kernel_rfl) (does_callk rfl callok19 rfl (spec_l1Next.calls (x0 := (⟨x0.fCode, a559⟩ : l1Src)) (x1 := 2) (hide_olds _ _) hF587 hFn588 hFl589 (HMh590.rdo hwo hp0_0) h585)) ?_
            rintro _ w631 ⟨rfl, hn⟩
            replace HM : Mem w X w631 [box b0 70 [p0_0, .int .i64 t584.2], box b460 42 [v560, .int .i64 0, .int .i64 0], own kInt 2 v560 a561, box b445 42 [.slice none 0 0, .int .i64 0, .int .i64 0]] := hcl591 _ _ hn
            have hS := Mem.suf (M := [box b0 70 [p0_0, .int .i64 t584.2], box b460 42 [v560, .int .i64 0, .int .i64 0], own kInt 2 v560 a561]) HM
            refine ⟨hS, ?_⟩
            exact drw_sub (K627 _ HM) (Sub.cons rfl (Sub.cons rfl (Sub.cons rfl (Sub.cons rfl (Sub.cons rfl (Sub.cons rfl (Sub.cons rfl Sub.nil)))))))
        refine drw_cut0 (l' := (bs 18 6399)) (f' := 8) ([(0, .pointer (some ⟨b0, 0, none⟩)), (2, .pointer (some ⟨b445, 0, none⟩)), (3, .pointer (some ⟨b460, 0, none⟩)), (4, .int .i64 a563), (17, v560), (19, v560), (28, .int .i64 t584.1), (23, .int .i64 (wrap64 ((a561.length : Int) - 1)))]) (fun w_ => Mem w X w_ [box b0 70 [p0_0, .int .i64 t584.2], box b460 42 [v560, .int .i64 0, .int .i64 0], own kInt 2 v560 a561, box b445 42 [.slice none 0 0, .int .i64 0, .int .i64 0]]) ?_ (fun K632 => ?_)
        · rintro w633 HM
          replace HM : Mem w X w633 [box b0 70 [p0_0, .int .i64 t584.2], box b460 42 [v560, .int .i64 0, .int .i64 0], own kInt 2 v560 a561, box b445 42 [.slice none 0 0, .int .i64 0, .int .i64 0]] := HM
          have hS := Mem.suf (M := [box b0 70 [p0_0, .int .i64 t584.2], box b460 42 [v560, .int .i64 0, .int .i64 0], own kInt 2 v560 a561]) HM
          refine dt 8 (bs 18 6655) rfl rfl rfl rfl (by kernel_rfl) (ex_indexAddr (d := kInt) rfl rfl rfl Tryz.underlying40 tsz2 (HM.own_rd 2 rfl) (idx_lo e583) (idx_hi e583)) hS ?_
          exact drw_sub (K627 _ HM) (Sub.cons rfl (Sub.cons rfl (Sub.cons rfl (Sub.cons rfl (Sub.cons rfl (Sub.cons rfl (Sub.cons rfl Sub.nil)))))))
        refine drw_cut0 (l' := (bs 18 6653)) (f' := 8) ([(0, .pointer (some ⟨b0, 0, none⟩)), (2, .pointer (some ⟨b445, 0, none⟩)), (3, .pointer (some ⟨b460, 0, none⟩)), (4, .int .i64 a563), (16, .pointer (some ⟨b460, 0, none⟩)), (24, .pointer (some ⟨sb v560, so v560 + (wrap64 ((a561.length : Int) - 1)).toNat * 1, none⟩)), (28, .int .i64 t584.1)]) (fun w_ => Mem w X w_ [box b0 70 [p0_0, .int .i64 t584.2], box b460 42 [v560, .int .i64 0, .int .i64 0], own kInt 2 v560 a561, box b445 42 [.slice none 0 0, .int .i64 0, .int .i64 0]]) ?_ (fun K634 => ?_)
        · rintro w635 HM
          replace HM : Mem w X w635 [box b0 70 [p0_0, .int .i64 t584.2], box b460 42 [v560, .int .i64 0, .int .i64 0], own kInt 2 v560 a561, box b445 42 [.slice none 0 0, .int .i64 0, .int .i64 0]] := HM
          have hS := Mem.suf (M := [box b0 70 [p0_0, .int .i64 t584.2], box b460 42 [v560, .int .i64 0, .int .i64 0], own kInt 2 v560 a561]) HM
          refine drw_any [1, 9] (by kernel_rfl) rfl (.cons ?_ (.cons ?_ .nil))
          · skip
            refine br_does (l' := (bs 18 6655)) rfl (guard_none rfl) rfl rfl (by kernel_rfl) (does_ex' (ex_load1 rfl rfl Tryz.underlying40 rfl ((HM.box_at 1 rfl) 0 _ rfl))) ?_
            rintro _ _ ⟨rfl, rfl⟩
            refine ⟨hS, ?_⟩
            exact drw_sub (K627 _ HM) (Sub.cons rfl (Sub.cons rfl (Sub.cons rfl (Sub.cons rfl (Sub.cons rfl (Sub.cons rfl (Sub.cons rfl Sub.nil)))))))
          · skip
            refine br_does (l' := (bs 18 7165)) rfl (guard_none rfl) rfl rfl (by kernel_rfl) (does_ex' (ex_load1 rfl rfl Tryz.underlying2 rfl ((rd_plain (HM.own_rd 2 rfl) e583) 0 _ rfl))) ?_
            rintro _ _ ⟨rfl, rfl⟩
            refine ⟨hS, ?_⟩
            refine dt 10 (bs 18 8189) rfl rfl rfl rfl (by kernel_rfl) (ex_add rfl rfl rfl) hS ?_
            exact drw_sub (K624 _ HM) (Sub.cons rfl (Sub.cons rfl (Sub.cons rfl (Sub.cons rfl (Sub.cons rfl (Sub.cons rfl (Sub.cons rfl Sub.nil)))))))
        refine drw_cut0 (l' := (bs 18 2303)) (f' := 9) ([(0, .pointer (some ⟨b0, 0, none⟩)), (2, .pointer (some ⟨b445, 0, none⟩)), (3, .pointer (some ⟨b460, 0, none⟩)), (4, .int .i64 a563), (27, .pointer (some ⟨b0, 0, none⟩)), (17, v560), (19, v560), (23, .int .i64 (wrap64 ((a561.length : Int) - 1)))]) (fun w_ => Mem w X w_ [box b0 70 [p0_0, .int .i64 a559], box b460 42 [v560, .int .i64 0, .int .i64 0], own kInt 2 v560 a561, box b445 42 [.slice none 0 0, .int .i64 0, .int .i64 0]]) ?_ (fun K636 => ?_)
        · rintro w637 HM
          replace HM : Mem w X w637 [box b0 70 [p0_0, .int .i64 a559], box b460 42 [v560, .int .i64 0, .int .i64 0], own kInt 2 v560 a561, box b445 42 [.slice none 0 0, .int .i64 0, .int .i64 0]] := HM
          have hS := Mem.suf (M := [box b0 70 [p0_0, .int .i64 a559], box b460 42 [v560, .int .i64 0, .int .i64 0], own kInt 2 v560 a561]) HM
          refine dt 8 (bs 18 2559) rfl rfl rfl rfl (by kernel_rfl) (ex_indexAddr (d := kInt) rfl rfl rfl Tryz.underlying40 tsz2 (HM.own_rd 2 rfl) (idx_lo e583) (idx_hi e583)) hS ?_
          exact drw_sub (K629 _ HM) (Sub.cons rfl (Sub.cons rfl (Sub.cons rfl (Sub.cons rfl (Sub.cons rfl (Sub.cons rfl (Sub.cons rfl Sub.nil)))))))
        refine drw_cut0 (l' := (bs 18 6391)) (f' := 9) ([(0, .pointer (some ⟨b0, 0, none⟩)), (2, .pointer (some ⟨b445, 0, none⟩)), (3, .pointer (some ⟨b460, 0, none⟩)), (4, .int .i64 a563), (18, .pointer (some ⟨b460, 0, none⟩)), (17, v560), (23, .int .i64 (wrap64 ((a561.length : Int) - 1))), (28, .int .i64 t584.1)]) (fun w_ => Mem w X w_ [box b0 70 [p0_0, .int .i64 t584.2], box b460 42 [v560, .int .i64 0, .int .i64 0], own kInt 2 v560 a561, box b445 42 [.slice none 0 0, .int .i64 0, .int .i64 0]]) ?_ (fun K638 => ?_)
        · rintro w639 HM
          replace HM : Mem w X w639 [box b0 70 [p0_0, .int .i64 t584.2], box b460 42 [v560, .int .i64 0, .int .i64 0], own kInt 2 v560 a561, box b445 42 [.slice none 0 0, .int .i64 0, .int .i64 0]] := HM
          have hS := Mem.suf (M := [box b0 70 [p0_0, .int .i64 t584.2], box b460 42 [v560, .int .i64 0, .int .i64 0], own kInt 2 v560 a561]) HM
          refine drw_any [3] (by kernel_rfl) rfl (.cons ?_ .nil)
          refine br_does (l' := (bs 18 6399)) rfl (guard_none rfl) rfl rfl (by kernel_rfl) (does_ex' (ex_load1 rfl rfl Tryz.underlying40 rfl ((HM.box_at 1 rfl) 0 _ rfl))) ?_
          rintro _ _ ⟨rfl, rfl⟩
          refine ⟨hS, ?_⟩
          exact drw_sub (K632 _ HM) (Sub.cons rfl (Sub.cons rfl (Sub.cons rfl (Sub.cons rfl (Sub.cons rfl (Sub.cons rfl (Sub.cons rfl (Sub.cons rfl Sub.nil))))))))
        refine drw_cut0 (l' := (bs 18 6397)) (f' := 9) ([(0, .pointer (some ⟨b0, 0, none⟩)), (2, .pointer (some ⟨b445, 0, none⟩)), (3, .pointer (some ⟨b460, 0, none⟩)), (4, .int .i64 a563), (16, .pointer (some ⟨b460, 0, none⟩)), (19, v560), (28, .int .i64 t584.1), (23, .int .i64 (wrap64 ((a561.length : Int) - 1)))]) (fun w_ => Mem w X w_ [box b0 70 [p0_0, .int .i64 t584.2], box b460 42 [v560, .int .i64 0, .int .i64 0], own kInt 2 v560 a561, box b445 42 [.slice none 0 0, .int .i64 0, .int .i64 0]]) ?_ (fun K640 => ?_)
        · rintro w641 HM
          replace HM : Mem w X w641 [box b0 70 [p0_0, .int .i64 t584.2], box b460 42 [v560, .int .i64 0, .int .i64 0], own kInt 2 v560 a561, box b445 42 [.slice none 0 0, .int .i64 0, .int .i64 0]] := HM
          have hS := Mem.suf (M := [box b0 70 [p0_0, .int .i64 t584.2], box b460 42 [v560, .int .i64 0, .int .i64 0], own kInt 2 v560 a561]) HM
          refine dt 8 (bs 18 6653) rfl rfl rfl rfl (by kernel_rfl) (ex_indexAddr (d := kInt) rfl rfl rfl Tryz.underlying40 tsz2 (HM.own_rd 2 rfl) (idx_lo e583) (idx_hi e583)) hS ?_
          exact drw_sub (K634 _ HM) (Sub.cons rfl (Sub.cons rfl (Sub.cons rfl (Sub.cons rfl (Sub.cons rfl (Sub.cons rfl (Sub.cons rfl Sub.nil)))))))
        refine drw_cut0 (l' := (bs 18 2295)) (f' := 10) ([(0, .pointer (some ⟨b0, 0, none⟩)), (2, .pointer (some ⟨b445, 0, none⟩)), (3, .pointer (some ⟨b460, 0, none⟩)), (4, .int .i64 a563), (18, .pointer (some ⟨b460, 0, none⟩)), (27, .pointer (some ⟨b0, 0, none⟩)), (17, v560), (23, .int .i64 (wrap64 ((a561.length : Int) - 1)))]) (fun w_ => Mem w X w_ [box b0 70 [p0_0, .int .i64 a559], box b460 42 [v560, .int .i64 0, .int .i64 0], own kInt 2 v560 a561, box b445 42 [.slice none 0 0, .int .i64 0, .int .i64 0]]) ?_ (fun K642 => ?_)
        · rintro w643 HM
          replace HM : Mem w X w643 [box b0 70 [p0_0, .int .i64 a559], box b460 42 [v560, .int .i64 0, .int .i64 0], own kInt 2 v560 a561, box b445 42 [.slice none 0 0, .int .i64 0, .int .i64 0]] := HM
          have hS := Mem.suf (M := [box b0 70 [p0_0, .int .i64 a559], box b460 42 [v560, .int .i64 0, .int .i64 0], own kInt 2 v560 a561]) HM
          refine drw_any [3, 12] (by kernel_rfl) rfl (.cons ?_ (.cons ?_ .nil))
          · skip
            refine br_does (l' := (bs 18 2303)) rfl (guard_none rfl) rfl rfl (by kernel_rfl) (does_ex' (ex_load1 rfl rfl Tryz.underlying40 rfl ((HM.box_at 1 rfl) 0 _ rfl))) ?_
            rintro _ _ ⟨rfl, rfl⟩
            refine ⟨hS, ?_⟩
            exact drw_sub (K636 _ HM) (Sub.cons rfl (Sub.cons rfl (Sub.cons rfl (Sub.cons rfl (Sub.cons rfl (Sub.cons rfl (Sub.cons rfl (Sub.cons rfl Sub.nil))))))))
          · skip
            obtain ⟨F586, hF587, hFn588, hFl589, HMh590, hcl591⟩ := HM.hide (Ms := [box b0 70 [p0_0, .int .i64 a559]])
            refine br_does (l' := (bs 18 6391)) rfl (guard_none rfl) rfl rfl (by kernel_rfl) (does_callk rfl callok19 rfl (spec_l1Next.calls (x0 := (⟨x0.fCode, a559⟩ : l1Src)) (x1 := 2) (hide_olds _ _) hF587 hFn588 hFl589 (HMh590.rdo hwo hp0_0) h585)) ?_
            rintro _ w644 ⟨rfl, hn⟩
            replace HM : Mem w X w644 [box b0 70 [p0_0, .int .i64 t584.2], box b460 42 [v560, .int .i64 0, .int .i64 0], own kInt 2 v560 a561, box b445 42 [.slice none 0 0, .int .i64 0, .int .i64 0]] := hcl591 _ _ hn
            have hS := Mem.suf (M := [box b0 70 [p0_0, .int .i64 t584.2], box b460 42 [v560, .int .i64 0, .int .i64 0], own kInt 2 v560 a561]) HM
            refine ⟨hS, ?_⟩
            exact drw_sub (K638 _ HM) (Sub.cons rfl (Sub.cons rfl (Sub.cons rfl (Sub.cons rfl (Sub.cons rfl (Sub.cons rfl (Sub.cons rfl (Sub.cons rfl Sub.nil))))))))
        refine drw_cut0 (l' := (bs 18 2301)) (f' := 10) ([(0, .pointer (some ⟨b0, 0, none⟩)), (2, .pointer (some ⟨b445, 0, none⟩)), (3, .pointer (some ⟨b460, 0, none⟩)), (4, .int .i64 a563), (16, .pointer (some ⟨b460, 0, none⟩)), (27, .pointer (some ⟨b0, 0, none⟩)), (19, v560), (23, .int .i64 (wrap64 ((a561.length : Int) - 1)))]) (fun w_ => Mem w X w_ [box b0 70 [p0_0, .int .i64 a559], box b460 42 [v560, .int .i64 0, .int .i64 0], own kInt 2 v560 a561, box b445 42 [.slice none 0 0, .int .i64 0, .int .i64 0]]) ?_ (fun K645 => ?_)
        · rintro w646 HM
          replace HM : Mem w X w646 [box b0 70 [p0_0, .int .i64 a559], box b460 42 [v560, .int .i64 0, .int .i64 0], own kInt 2 v560 a561, box b445 42 [.slice none 0 0, .int .i64 0, .int .i64 0]] := HM
          have hS := Mem.suf (M := [box b0 70 [p0_0, .int .i64 a559], box b460 42 [v560, .int .i64 0, .int .i64 0], own kInt 2 v560 a561]) HM
          refine dt 8 (bs 18 2557) rfl rfl rfl rfl (by kernel_rfl) (ex_indexAddr (d := kInt) rfl rfl rfl Tryz.underlying40 tsz2 (HM.own_rd 2 rfl) (idx_lo e583) (idx_hi e583)) hS ?_
          refine drw_any [1, 9, 12] (by kernel_rfl) rfl (.cons ?_ (.cons ?_ (.cons ?_ .nil)))
          · skip
            refine br_does (l' := (bs 18 2559)) rfl (guard_none rfl) rfl rfl (by kernel_rfl) (does_ex' (ex_load1 rfl rfl Tryz.underlying40 rfl ((HM.box_at 1 rfl) 0 _ rfl))) ?_
            rintro _ _ ⟨rfl, rfl⟩
            refine ⟨hS, ?_⟩
            exact drw_sub (K629 _ HM) (Sub.cons rfl (Sub.cons rfl (Sub.cons rfl (Sub.cons rfl (Sub.cons rfl (Sub.cons rfl (Sub.cons rfl Sub.nil)))))))
          · skip
            refine br_does (l' := (bs 18 3069)) rfl (guard_none rfl) rfl rfl (by kernel_rfl) (does_ex' (ex_load1 rfl rfl Tryz.underlying2 rfl ((rd_plain (HM.own_rd 2 rfl) e583) 0 _ rfl))) ?_
            rintro _ _ ⟨rfl, rfl⟩
            refine ⟨hS, ?_⟩
            refine dt 10 (bs 18 4093) rfl rfl rfl rfl (by kernel_rfl) (ex_add rfl rfl rfl) hS ?_
            refine drw_any [1, 12] (by kernel_rfl) rfl (.cons ?_ (.cons ?_ .nil))
            · skip
              refine br_does (l' := (bs 18 4095)) rfl (guard_none rfl) rfl rfl (by kernel_rfl) (does_ex' (ex_load1 rfl rfl Tryz.underlying40 rfl ((HM.box_at 1 rfl) 0 _ rfl))) ?_
              rintro _ _ ⟨rfl, rfl⟩
              refine ⟨hS, ?_⟩
              exact drw_sub (K621 _ HM) (Sub.cons rfl (Sub.cons rfl (Sub.cons rfl (Sub.cons rfl (Sub.cons rfl (Sub.cons rfl (Sub.cons rfl Sub.nil)))))))
            · skip
              obtain ⟨F586, hF587, hFn588, hFl589, HMh590, hcl591⟩ := HM.hide (Ms := [box b0 70 [p0_0, .int .i64 a559]])
              refine br_does (l' := (bs 18 8189)) rfl (guard_none rfl) rfl rfl (by kernel_rfl) (does_callk rfl callok19 rfl (spec_l1Next.calls (x0 := (⟨x0.fCode, a559⟩ : l1Src)) (x1 := 2) (hide_olds _ _) hF587 hFn588 hFl589 (HMh590.rdo hwo hp0_0) h585)) ?_
              rintro _ w647 ⟨rfl, hn⟩
              replace HM : Mem w X w647 [box b0 70 [p0_0, .int .i64 t584.2], box b460 42 [v560, .int .i64 0, .int .i64 0], own kInt 2 v560 a561, box b445 42 [.slice none 0 0, .int .i64 0, .int .i64 0]] := hcl591 _ _ hn
              have hS := Mem.suf (M := [box b0 70 [p0_0, .int .i64 t584.2], box b460 42 [v560, .int .i64 0, .int .i64 0], own kInt 2 v560 a561]) HM
              refine ⟨hS, ?_⟩
              exact drw_sub (K624 _ HM) (Sub.cons rfl (Sub.cons rfl (Sub.cons rfl (Sub.cons rfl (Sub.cons rfl (Sub.cons rfl (Sub.cons rfl Sub.nil)))))))
          · skip
            obtain ⟨F586, hF587, hFn588, hFl589, HMh590, hcl591⟩ := HM.hide (Ms := [box b0 70 [p0_0, .int .i64 a559]])
            refine br_does (l' := (bs 18 6653)) rfl (guard_none rfl) rfl rfl (by kernel_rfl) (does_callk rfl callok19 rfl (spec_l1Next.calls (x0 := (⟨x0.fCode, a559⟩ : l1Src)) (x1 := 2) (hide_olds _ _) hF587 hFn588 hFl589 (HMh590.rdo hwo hp0_0) h585)) ?_
            rintro _ w648 ⟨rfl, hn⟩
            replace HM : Mem w X w648 [box b0 70 [p0_0, .int .i64 t584.2], box b460 42 [v560, .int .i64 0, .int .i64 0], own kInt 2 v560 a561, box b445 42 [.slice none 0 0, .int .i64 0, .int .i64 0]] := hcl591 _ _ hn
            have hS := Mem.suf (M := [box b0 70 [p0_0, .int .i64 t584.2], box b460 42 [v560, .int .i64 0, .int .i64 0], own kInt 2 v560 a561]) HM
            refine ⟨hS, ?_⟩
            exact drw_sub (K634 _ HM) (Sub.cons rfl (Sub.cons rfl (Sub.cons rfl (Sub.cons rfl (Sub.cons rfl (Sub.cons rfl (Sub.cons rfl Sub.nil)))))))
        refine drw_cut0 (l' := (bs 18 6389)) (f' := 10) ([(0, .pointer (some ⟨b0, 0, none⟩)), (2, .pointer (some ⟨b445, 0, none⟩)), (3, .pointer (some ⟨b460, 0, none⟩)), (4, .int .i64 a563), (16, .pointer (some ⟨b460, 0, none⟩)), (18, .pointer (some ⟨b460, 0, none⟩)), (23, .int .i64 (wrap64 ((a561.length : Int) - 1))), (28, .int .i64 t584.1)]) (fun w_ => Mem w X w_ [box b0 70 [p0_0, .int .i64 t584.2], box b460 42 [v560, .int .i64 0, .int .i64 0], own kInt 2 v560 a561, box b445 42 [.slice none 0 0, .int .i64 0, .int .i64 0]]) ?_ (fun K649 => ?_)
        · rintro w650 HM
          replace HM : Mem w X w650 [box b0 70 [p0_0, .int .i64 t584.2], box b460 42 [v560, .int .i64 0, .int .i64 0], own kInt 2 v560 a561, box b445 42 [.slice none 0 0, .int .i64 0, .int .i64 0]] := HM
          have hS := Mem.suf (M := [box b0 70 [p0_0, .int .i64 t584.2], box b460 42 [v560, .int .i64 0, .int .i64 0], own kInt 2 v560 a561]) HM
          refine drw_any [1, 3] (by kernel_rfl) rfl (.cons ?_ (.cons ?_ .nil))
          · skip
            refine br_does (l' := (bs 18 6391)) rfl (guard_none rfl) rfl rfl (by kernel_rfl) (does_ex' (ex_load1 rfl rfl Tryz.underlying40 rfl ((HM.box_at 1 rfl) 0 _ rfl))) ?_
            rintro _ _ ⟨rfl, rfl⟩
            refine ⟨hS, ?_⟩
            exact drw_sub (K638 _ HM) (Sub.cons rfl (Sub.cons rfl (Sub.cons rfl (Sub.cons rfl (Sub.cons rfl (Sub.cons rfl (Sub.cons rfl (Sub.cons rfl Sub.nil))))))))
          · skip
            refine br_does (l' := (bs 18 6397)) rfl (guard_none rfl) rfl rfl (by kernel_rfl) (does_ex' (ex_load1 rfl rfl Tryz.underlying40 rfl ((HM.box_at 1 rfl) 0 _ rfl))) ?_
            rintro _ _ ⟨rfl, rfl⟩
            refine ⟨hS, ?_⟩
            exact drw_sub (K640 _ HM) (Sub.cons rfl (Sub.cons rfl (Sub.cons rfl (Sub.cons rfl (Sub.cons rfl (Sub.cons rfl (Sub.cons rfl (Sub.cons rfl Sub.nil))))))))
        refine drw_cut0 (l' := (bs 18 6175)) (f' := 11) ([(0, .pointer (some ⟨b0, 0, none⟩)), (2, .pointer (some ⟨b445, 0, none⟩)), (3, .pointer (some ⟨b460, 0, none⟩)), (4, .int .i64 a563), (20, .pointer (some ⟨b460, 0, none⟩)), (17, v560), (19, v560), (28, .int .i64 t584.1)]) (fun w_ => Mem w X w_ [box b0 70 [p0_0, .int .i64 t584.2], box b460 42 [v560, .int .i64 0, .int .i64 0], own kInt 2 v560 a561, box b445 42 [.slice none 0 0, .int .i64 0, .int .i64 0]]) ?_ (fun K651 => ?_)
        · rintro w652 HM
          replace HM : Mem w X w652 [box b0 70 [p0_0, .int .i64 t584.2], box b460 42 [v560, .int .i64 0, .int .i64 0], own kInt 2 v560 a561, box b445 42 [.slice none 0 0, .int .i64 0, .int .i64 0]] := HM
          have hS := Mem.suf (M := [box b0 70 [p0_0, .int .i64 t584.2], box b460 42 [v560, .int .i64 0, .int .i64 0], own kInt 2 v560 a561]) HM
          refine drw_any [5] (by kernel_rfl) rfl (.cons ?_ .nil)
          refine br_does (l' := (bs 18 6207)) rfl (guard_none rfl) rfl rfl (by kernel_rfl) (does_ex' (ex_load1 rfl rfl Tryz.underlying40 rfl ((HM.box_at 1 rfl) 0 _ rfl))) ?_
          rintro _ _ ⟨rfl, rfl⟩
          refine ⟨hS, ?_⟩
          refine dt 6 (bs 18 6271) rfl rfl rfl rfl (by kernel_rfl) (ex_len (d := kInt) (xs := a561) rfl rfl Tryz.underlying40 (HM.own_rd 2 rfl)) hS ?_
          refine dt 7 (bs 18 6399) rfl rfl rfl rfl (by kernel_rfl) (ex_sub rfl rfl rfl) hS ?_
          exact drw_sub (K632 _ HM) (Sub.cons rfl (Sub.cons rfl (Sub.cons rfl (Sub.cons rfl (Sub.cons rfl (Sub.cons rfl (Sub.cons rfl (Sub.cons rfl Sub.nil))))))))
        refine drw_cut0 (l' := (bs 18 2079)) (f' := 12) ([(0, .pointer (some ⟨b0, 0, none⟩)), (2, .pointer (some ⟨b445, 0, none⟩)), (3, .pointer (some ⟨b460, 0, none⟩)), (4, .int .i64 a563), (20, .pointer (some ⟨b460, 0, none⟩)), (27, .pointer (some ⟨b0, 0, none⟩)), (17, v560), (19, v560)]) (fun w_ => Mem w X w_ [box b0 70 [p0_0, .int .i64 a559], box b460 42 [v560, .int .i64 0, .int .i64 0], own kInt 2 v560 a561, box b445 42 [.slice none 0 0, .int .i64 0, .int .i64 0]]) ?_ (fun K653 => ?_)
        · rintro w654 HM
          replace HM : Mem w X w654 [box b0 70 [p0_0, .int .i64 a559], box b460 42 [v560, .int .i64 0, .int .i64 0], own kInt 2 v560 a561, box b445 42 [.slice none 0 0, .int .i64 0, .int .i64 0]] := HM
          have hS := Mem.suf (M := [box b0 70 [p0_0, .int .i64 a559], box b460 42 [v560, .int .i64 0, .int .i64 0], own kInt 2 v560 a561]) HM
          refine drw_any [5, 12] (by kernel_rfl) rfl (.cons ?_ (.cons ?_ .nil))
          · skip
            refine br_does (l' := (bs 18 2111)) rfl (guard_none rfl) rfl rfl (by kernel_rfl) (does_ex' (ex_load1 rfl rfl Tryz.underlying40 rfl ((HM.box_at 1 rfl) 0 _ rfl))) ?_
            rintro _ _ ⟨rfl, rfl⟩
            refine ⟨hS, ?_⟩
            refine dt 6 (bs 18 2175) rfl rfl rfl rfl (by kernel_rfl) (ex_len (d := kInt) (xs := a561) rfl rfl Tryz.underlying40 (HM.own_rd 2 rfl)) hS ?_
            refine dt 7 (bs 18 2303) rfl rfl rfl rfl (by kernel_rfl) (ex_sub rfl rfl rfl) hS ?_
            exact drw_sub (K636 _ HM) (Sub.cons rfl (Sub.cons rfl (Sub.cons rfl (Sub.cons rfl (Sub.cons rfl (Sub.cons rfl (Sub.cons rfl (Sub.cons rfl Sub.nil))))))))
          · skip
            obtain ⟨F586, hF587, hFn588, hFl589, HMh590, hcl591⟩ := HM.hide (Ms := [box b0 70 [p0_0, .int .i64 a559]])
            refine br_does (l' := (bs 18 6175)) rfl (guard_none rfl) rfl rfl (by kernel_rfl) (does_callk rfl callok19 rfl (spec_l1Next.calls (x0 := (⟨x0.fCode, a559⟩ : l1Src)) (x1 := 2) (hide_olds _ _) hF587 hFn588 hFl589 (HMh590.rdo hwo hp0_0) h585)) ?_
            rintro _ w655 ⟨rfl, hn⟩
            replace HM : Mem w X w655 [box b0 70 [p0_0, .int .i64 t584.2], box b460 42 [v560, .int .i64 0, .int .i64 0], own kInt 2 v560 a561, box b445 42 [.slice none 0 0, .int .i64 0, .int .i64 0]] := hcl591 _ _ hn
            have hS := Mem.suf (M := [box b0 70 [p0_0, .int .i64 t584.2], box b460 42 [v560, .int .i64 0, .int .i64 0], own kInt 2 v560 a561]) HM
            refine ⟨hS, ?_⟩
            exact drw_sub (K651 _ HM) (Sub.cons rfl (Sub.cons rfl (Sub.cons rfl (Sub.cons rfl (Sub.cons rfl (Sub.cons rfl (Sub.cons rfl (Sub.cons rfl Sub.nil))))))))
        refine drw_cut0 (l' := (bs 18 6167)) (f' := 12) ([(0, .pointer (some ⟨b0, 0, none⟩)), (2, .pointer (some ⟨b445, 0, none⟩)), (3, .pointer (some ⟨b460, 0, none⟩)), (4, .int .i64 a563), (18, .pointer (some ⟨b460, 0, none⟩)), (20, .pointer (some ⟨b460, 0, none⟩)), (17, v560), (28, .int .i64 t584.1)]) (fun w_ => Mem w X w_ [box b0 70 [p0_0, .int .i64 t584.2], box b460 42 [v560, .int .i64 0, .int .i64 0], own kInt 2 v560 a561, box b445 42 [.slice none 0 0, .int .i64 0, .int .i64 0]]) ?_ (fun K656 => ?_)
        · rintro w657 HM
          replace HM : Mem w X w657 [box b0 70 [p0_0, .int .i64 t584.2], box b460 42 [v560, .int .i64 0, .int .i64 0], own kInt 2 v560 a561, box b445 42 [.slice none 0 0, .int .i64 0, .int .i64 0]] := HM
          have hS := Mem.suf (M := [box b0 70 [p0_0, .int .i64 t584.2], box b460 42 [v560, .int .i64 0, .int .i64 0], own kInt 2 v560 a561]) HM
          refine drw_any [3, 5] (by kernel_rfl) rfl (.cons ?_ (.cons ?_ .nil))
          · skip
            refine br_does (l' := (bs 18 6175)) rfl (guard_none rfl) rfl rfl (by kernel_rfl) (does_ex' (ex_load1 rfl rfl Tryz.underlying40 rfl ((HM.box_at 1 rfl) 0 _ rfl))) ?_
            rintro _ _ ⟨rfl, rfl⟩
            refine ⟨hS, ?_⟩
            exact drw_sub (K651 _ HM) (Sub.cons rfl (Sub.cons rfl (Sub.cons rfl (Sub.cons rfl (Sub.cons rfl (Sub.cons rfl (Sub.cons rfl (Sub.cons rfl Sub.nil))))))))
          · skip
            refine br_does (l' := (bs 18 6199)) rfl (guard_none rfl) rfl rfl (by kernel_rfl) (does_ex' (ex_load1 rfl rfl Tryz.underlying40 rfl ((HM.box_at 1 rfl) 0 _ rfl))) ?_
            rintro _ _ ⟨rfl, rfl⟩
            refine ⟨hS, ?_⟩
            refine dt 6 (bs 18 6263) rfl rfl rfl rfl (by kernel_rfl) (ex_len (d := kInt) (xs := a561) rfl rfl Tryz.underlying40 (HM.own_rd 2 rfl)) hS ?_
            refine dt 7 (bs 18 6391) rfl rfl rfl rfl (by kernel_rfl) (ex_sub rfl rfl rfl) hS ?_
            exact drw_sub (K638 _ HM) (Sub.cons rfl (Sub.cons rfl (Sub.cons rfl (Sub.cons rfl (Sub.cons rfl (Sub.cons rfl (Sub.cons rfl (Sub.cons rfl Sub.nil))))))))
        refine drw_cut0 (l' := (bs 18 6173)) (f' := 12) ([(0, .pointer (some ⟨b0, 0, none⟩)), (2, .pointer (some ⟨b445, 0, none⟩)), (3, .pointer (some ⟨b460, 0, none⟩)), (4, .int .i64 a563), (16, .pointer (some ⟨b460, 0, none⟩)), (20, .pointer (some ⟨b460, 0, none⟩)), (19, v560), (28, .int .i64 t584.1)]) (fun w_ => Mem w X w_ [box b0 70 [p0_0, .int .i64 t584.2], box b460 42 [v560, .int .i64 0, .int .i64 0], own kInt 2 v560 a561, box b445 42 [.slice none 0 0, .int .i64 0, .int .i64 0]]) ?_ (fun K658 => ?_)
        · rintro w659 HM
          replace HM : Mem w X w659 [box b0 70 [p0_0, .int .i64 t584.2], box b460 42 [v560, .int .i64 0, .int .i64 0], own kInt 2 v560 a561, box b445 42 [.slice none 0 0, .int .i64 0, .int .i64 0]] := HM
          have hS := Mem.suf (M := [box b0 70 [p0_0, .int .i64 t584.2], box b460 42 [v560, .int .i64 0, .int .i64 0], own kInt 2 v560 a561]) HM
          refine drw_any [1, 5] (by kernel_rfl) rfl (.cons ?_ (.cons ?_ .nil))
          · skip
            refine br_does (l' := (bs 18 6175)) rfl (guard_none rfl) rfl rfl (by kernel_rfl) (does_ex' (ex_load1 rfl rfl Tryz.underlying40 rfl ((HM.box_at 1 rfl) 0 _ rfl))) ?_
            rintro _ _ ⟨rfl, rfl⟩
            refine ⟨hS, ?_⟩
            exact drw_sub (K651 _ HM) (Sub.cons rfl (Sub.cons rfl (Sub.cons rfl (Sub.cons rfl (Sub.cons rfl (Sub.cons rfl (Sub.cons rfl (Sub.cons rfl Sub.nil))))))))
          · skip
            refine br_does (l' := (bs 18 6205)) rfl (guard_none rfl) rfl rfl (by kernel_rfl) (does_ex' (ex_load1 rfl rfl Tryz.underlying40 rfl ((HM.box_at 1 rfl) 0 _ rfl))) ?_
            rintro _ _ ⟨rfl, rfl⟩
            refine ⟨hS, ?_⟩
            refine dt 6 (bs 18 6269) rfl rfl rfl rfl (by kernel_rfl) (ex_len (d := kInt) (xs := a561) rfl rfl Tryz.underlying40 (HM.own_rd 2 rfl)) hS ?_
            refine dt 7 (bs 18 6397) rfl rfl rfl rfl (by kernel_rfl) (ex_sub rfl rfl rfl) hS ?_
            exact drw_sub (K640 _ HM) (Sub.cons rfl (Sub.cons rfl (Sub.cons rfl (Sub.cons rfl (Sub.cons rfl (Sub.cons rfl (Sub.cons rfl (Sub.cons rfl Sub.nil))))))))
        refine dt 0 (bs 18 1) rfl rfl rfl rfl (by kernel_rfl) (ex_fieldAddr (off' := 0) rfl rfl Tryz.underlying42 rfl tsz40 rfl) hS ?_
        refine dt 2 (bs 18 5) rfl rfl rfl rfl (by kernel_rfl) (ex_fieldAddr (off' := 0) rfl rfl Tryz.underlying42 rfl tsz40 rfl) hS ?_
        refine dt 4 (bs 18 21) rfl rfl rfl rfl (by kernel_rfl) (ex_fieldAddr (off' := 0) rfl rfl Tryz.underlying42 rfl tsz40 rfl) hS ?_
        refine dt 11 (bs 18 2069) rfl rfl rfl rfl (by kernel_rfl) (ex_move rfl rfl) hS ?_
        refine drw_any [1, 3, 5, 12] (by kernel_rfl) rfl (.cons ?_ (.cons ?_ (.cons ?_ (.cons ?_ .nil))))
        · skip
          refine br_does (l' := (bs 18 2071)) rfl (guard_none rfl) rfl rfl (by kernel_rfl) (does_ex' (ex_load1 rfl rfl Tryz.underlying40 rfl ((HM.box_at 1 rfl) 0 _ rfl))) ?_
          rintro _ _ ⟨rfl, rfl⟩
          refine ⟨hS, ?_⟩
          refine drw_any [3, 5, 12] (by kernel_rfl) rfl (.cons ?_ (.cons ?_ (.cons ?_ .nil)))
          · skip
            refine br_does (l' := (bs 18 2079)) rfl (guard_none rfl) rfl rfl (by kernel_rfl) (does_ex' (ex_load1 rfl rfl Tryz.underlying40 rfl ((HM.box_at 1 rfl) 0 _ rfl))) ?_
            rintro _ _ ⟨rfl, rfl⟩
            refine ⟨hS, ?_⟩
            exact drw_sub (K653 _ HM) (Sub.cons rfl (Sub.cons rfl (Sub.cons rfl (Sub.cons rfl (Sub.cons rfl (Sub.cons rfl (Sub.cons rfl (Sub.cons rfl Sub.nil))))))))
          · skip
            refine br_does (l' := (bs 18 2103)) rfl (guard_none rfl) rfl rfl (by kernel_rfl) (does_ex' (ex_load1 rfl rfl Tryz.underlying40 rfl ((HM.box_at 1 rfl) 0 _ rfl))) ?_
            rintro _ _ ⟨rfl, rfl⟩
            refine ⟨hS, ?_⟩
            refine dt 6 (bs 18 2167) rfl rfl rfl rfl (by kernel_rfl) (ex_len (d := kInt) (xs := a561) rfl rfl Tryz.underlying40 (HM.own_rd 2 rfl)) hS ?_
            refine dt 7 (bs 18 2295) rfl rfl rfl rfl (by kernel_rfl) (ex_sub rfl rfl rfl) hS ?_
            exact drw_sub (K642 _ HM) (Sub.cons rfl (Sub.cons rfl (Sub.cons rfl (Sub.cons rfl (Sub.cons rfl (Sub.cons rfl (Sub.cons rfl (Sub.cons rfl Sub.nil))))))))
          · skip
            obtain ⟨F586, hF587, hFn588, hFl589, HMh590, hcl591⟩ := HM.hide (Ms := [box b0 70 [p0_0, .int .i64 a559]])
            refine br_does (l' := (bs 18 6167)) rfl (guard_none rfl) rfl rfl (by kernel_rfl) (does_callk rfl callok19 rfl (spec_l1Next.calls (x0 := (⟨x0.fCode, a559⟩ : l1Src)) (x1 := 2) (hide_olds _ _) hF587 hFn588 hFl589 (HMh590.rdo hwo hp0_0) h585)) ?_
            rintro _ w660 ⟨rfl, hn⟩
            replace HM : Mem w X w660 [box b0 70 [p0_0, .int .i64 t584.2], box b460 42 [v560, .int .i64 0, .int .i64 0], own kInt 2 v560 a561, box b445 42 [.slice none 0 0, .int .i64 0, .int .i64 0]] := hcl591 _ _ hn
            have hS := Mem.suf (M := [box b0 70 [p0_0, .int .i64 t584.2], box b460 42 [v560, .int .i64 0, .int .i64 0], own kInt 2 v560 a561]) HM
            refine ⟨hS, ?_⟩
            exact drw_sub (K656 _ HM) (Sub.cons rfl (Sub.cons rfl (Sub.cons rfl (Sub.cons rfl (Sub.cons rfl (Sub.cons rfl (Sub.cons rfl (Sub.cons rfl Sub.nil))))))))
        · skip
          refine br_does (l' := (bs 18 2077)) rfl (guard_none rfl) rfl rfl (by kernel_rfl) (does_ex' (ex_load1 rfl rfl Tryz.underlying40 rfl ((HM.box_at 1 rfl) 0 _ rfl))) ?_
          rintro _ _ ⟨rfl, rfl⟩
          refine ⟨hS, ?_⟩
          refine drw_any [1, 5, 12] (by kernel_rfl) rfl (.cons ?_ (.cons ?_ (.cons ?_ .nil)))
          · skip
            refine br_does (l' := (bs 18 2079)) rfl (guard_none rfl) rfl rfl (by kernel_rfl) (does_ex' (ex_load1 rfl rfl Tryz.underlying40 rfl ((HM.box_at 1 rfl) 0 _ rfl))) ?_
            rintro _ _ ⟨rfl, rfl⟩
            refine ⟨hS, ?_⟩
            exact drw_sub (K653 _ HM) (Sub.cons rfl (Sub.cons rfl (Sub.cons rfl (Sub.cons rfl (Sub.cons rfl (Sub.cons rfl (Sub.cons rfl (Sub.cons rfl Sub.nil))))))))
          · skip
            refine br_does (l' := (bs 18 2109)) rfl (guard_none rfl) rfl rfl (by kernel_rfl) (does_ex' (ex_load1 rfl rfl Tryz.underlying40 rfl ((HM.box_at 1 rfl) 0 _ rfl))) ?_
            rintro _ _ ⟨rfl, rfl⟩
            refine ⟨hS, ?_⟩
            refine dt 6 (bs 18 2173) rfl rfl rfl rfl (by kernel_rfl) (ex_len (d := kInt) (xs := a561) rfl rfl Tryz.underlying40 (HM.own_rd 2 rfl)) hS ?_
            refine dt 7 (bs 18 2301) rfl rfl rfl rfl (by kernel_rfl) (ex_sub rfl rfl rfl) hS ?_
            exact drw_sub (K645 _ HM) (Sub.cons rfl (Sub.cons rfl (Sub.cons rfl (Sub.cons rfl (Sub.cons rfl (Sub.cons rfl (Sub.cons rfl (Sub.cons rfl Sub.nil))))))))
          · skip
            obtain ⟨F586, hF587, hFn588, hFl589, HMh590, hcl591⟩ := HM.hide (Ms := [box b0 70 [p0_0, .int .i64 a559]])
            refine br_does (l' := (bs 18 6173)) rfl (guard_none rfl) rfl rfl (by kernel_rfl) (does_callk rfl callok19 rfl (spec_l1Next.calls (x0 := (⟨x0.fCode, a559⟩ : l1Src)) (x1 := 2) (hide_olds _ _) hF587 hFn588 hFl589 (HMh590.rdo hwo hp0_0) h585)) ?_
            rintro _ w661 ⟨rfl, hn⟩
            replace HM : Mem w X w661 [box b0 70 [p0_0, .int .i64 t584.2], box b460 42 [v560, .int .i64 0, .int .i64 0], own kInt 2 v560 a561, box b445 42 [.slice none 0 0, .int .i64 0, .int .i64 0]] := hcl591 _ _ hn
            have hS := Mem.suf (M := [box b0 70 [p0_0, .int .i64 t584.2], box b460 42 [v560, .int .i64 0, .int .i64 0], own kInt 2 v560 a561]) HM
            refine ⟨hS, ?_⟩
            exact drw_sub (K658 _ HM) (Sub.cons rfl (Sub.cons rfl (Sub.cons rfl (Sub.cons rfl (Sub.cons rfl (Sub.cons rfl (Sub.cons rfl (Sub.cons rfl Sub.nil))))))))
        · skip
          refine br_does (l' := (bs 18 2101)) rfl (guard_none rfl) rfl rfl (by kernel_rfl) (does_ex' (ex_load1 rfl rfl Tryz.underlying40 rfl ((HM.box_at 1 rfl) 0 _ rfl))) ?_
          rintro _ _ ⟨rfl, rfl⟩
          refine ⟨hS, ?_⟩
          refine dt 6 (bs 18 2165) rfl rfl rfl rfl (by kernel_rfl) (ex_len (d := kInt) (xs := a561) rfl rfl Tryz.underlying40 (HM.own_rd 2 rfl)) hS ?_
          refine dt 7 (bs 18 2293) rfl rfl rfl rfl (by kernel_rfl) (ex_sub rfl rfl rfl) hS ?_
          refine drw_any [1, 3, 12] (by kernel_rfl) rfl (.cons ?_ (.cons ?_ (.cons ?_ .nil)))
          · skip
            refine br_does (l' := (bs 18 2295)) rfl (guard_none rfl) rfl rfl (by kernel_rfl) (does_ex' (ex_load1 rfl rfl Tryz.underlying40 rfl ((HM.box_at 1 rfl) 0 _ rfl))) ?_
            rintro _ _ ⟨rfl, rfl⟩
            refine ⟨hS, ?_⟩
            exact drw_sub (K642 _ HM) (Sub.cons rfl (Sub.cons rfl (Sub.cons rfl (Sub.cons rfl (Sub.cons rfl (Sub.cons rfl (Sub.cons rfl (Sub.cons rfl Sub.nil))))))))
          · skip
            refine br_does (l' := (bs 18 2301)) rfl (guard_none rfl) rfl rfl (by kernel_rfl) (does_ex' (ex_load1 rfl rfl Tryz.underlying40 rfl ((HM.box_at 1 rfl) 0 _ rfl))) ?_
            rintro _ _ ⟨rfl, rfl⟩
            refine ⟨hS, ?_⟩
            exact drw_sub (K645 _ HM) (Sub.cons rfl (Sub.cons rfl (Sub.cons rfl (Sub.cons rfl (Sub.cons rfl (Sub.cons rfl (Sub.cons rfl (Sub.cons rfl Sub.nil))))))))
          · skip
            obtain ⟨F586, hF587, hFn588, hFl589, HMh590, hcl591⟩ := HM.hide (Ms := [box b0 70 [p0_0, .int .i64 a559]])
            refine br_does (l' := (bs 18 6389)) rfl (guard_none rfl) rfl rfl (by kernel_rfl) (does_callk rfl callok19 rfl (spec_l1Next.calls (x0 := (⟨x0.fCode, a559⟩ : l1Src)) (x1 := 2) (hide_olds _ _) hF587 hFn588 hFl589 (HMh590.rdo hwo hp0_0) h585)) ?_
            rintro _ w662 ⟨rfl, hn⟩
            replace HM : Mem w X w662 [box b0 70 [p0_0, .int .i64 t584.2], box b460 42 [v560, .int .i64 0, .int .i64 0], own kInt 2 v560 a561, box b445 42 [.slice none 0 0, .int .i64 0, .int .i64 0]] := hcl591 _ _ hn
            have hS := Mem.suf (M := [box b0 70 [p0_0, .int .i64 t584.2], box b460 42 [v560, .int .i64 0, .int .i64 0], own kInt 2 v560 a561]) HM
            refine ⟨hS, ?_⟩
            exact drw_sub (K649 _ HM) (Sub.cons rfl (Sub.cons rfl (Sub.cons rfl (Sub.cons rfl (Sub.cons rfl (Sub.cons rfl (Sub.cons rfl (Sub.cons rfl Sub.nil))))))))
        · skip
          obtain ⟨F586, hF587, hFn588, hFl589, HMh590, hcl591⟩ := HM.hide (Ms := [box b0 70 [p0_0, .int .i64 a559]])
          refine br_does (l' := (bs 18 6165)) rfl (guard_none rfl) rfl rfl (by kernel_rfl) (does_callk rfl callok19 rfl (spec_l1Next.calls (x0 := (⟨x0.fCode, a559⟩ : l1Src)) (x1 := 2) (hide_olds _ _) hF587 hFn588 hFl589 (HMh590.rdo hwo hp0_0) h585)) ?_
          rintro _ w663 ⟨rfl, hn⟩
          replace HM : Mem w X w663 [box b0 70 [p0_0, .int .i64 t584.2], box b460 42 [v560, .int .i64 0, .int .i64 0], own kInt 2 v560 a561, box b445 42 [.slice none 0 0, .int .i64 0, .int .i64 0]] := hcl591 _ _ hn
          have hS := Mem.suf (M := [box b0 70 [p0_0, .int .i64 t584.2], box b460 42 [v560, .int .i64 0, .int .i64 0], own kInt 2 v560 a561]) HM
          refine ⟨hS, ?_⟩
          refine drw_any [1, 3, 5] (by kernel_rfl) rfl (.cons ?_ (.cons ?_ (.cons ?_ .nil)))
          · skip
            refine br_does (l' := (bs 18 6167)) rfl (guard_none rfl) rfl rfl (by kernel_rfl) (does_ex' (ex_load1 rfl rfl Tryz.underlying40 rfl ((HM.box_at 1 rfl) 0 _ rfl))) ?_
            rintro _ _ ⟨rfl, rfl⟩
            refine ⟨hS, ?_⟩
            exact drw_sub (K656 _ HM) (Sub.cons rfl (Sub.cons rfl (Sub.cons rfl (Sub.cons rfl (Sub.cons rfl (Sub.cons rfl (Sub.cons rfl (Sub.cons rfl Sub.nil))))))))
          · skip
            refine br_does (l' := (bs 18 6173)) rfl (guard_none rfl) rfl rfl (by kernel_rfl) (does_ex' (ex_load1 rfl rfl Tryz.underlying40 rfl ((HM.box_at 1 rfl) 0 _ rfl))) ?_
            rintro _ _ ⟨rfl, rfl⟩
            refine ⟨hS, ?_⟩
            exact drw_sub (K658 _ HM) (Sub.cons rfl (Sub.cons rfl (Sub.cons rfl (Sub.cons rfl (Sub.cons rfl (Sub.cons rfl (Sub.cons rfl (Sub.cons rfl Sub.nil))))))))
          · skip
            refine br_does (l' := (bs 18 6197)) rfl (guard_none rfl) rfl rfl (by kernel_rfl) (does_ex' (ex_load1 rfl rfl Tryz.underlying40 rfl ((HM.box_at 1 rfl) 0 _ rfl))) ?_
            rintro _ _ ⟨rfl, rfl⟩
            refine ⟨hS, ?_⟩
            refine dt 6 (bs 18 6261) rfl rfl rfl rfl (by kernel_rfl) (ex_len (d := kInt) (xs := a561) rfl rfl Tryz.underlying40 (HM.own_rd 2 rfl)) hS ?_
            refine dt 7 (bs 18 6389) rfl rfl rfl rfl (by kernel_rfl) (ex_sub rfl rfl rfl) hS ?_
            exact drw_sub (K649 _ HM) (Sub.cons rfl (Sub.cons rfl (Sub.cons rfl (Sub.cons rfl (Sub.cons rfl (Sub.cons rfl (Sub.cons rfl (Sub.cons rfl Sub.nil))))))))
      · rintro _ w664 ⟨v596, rfl, HM⟩
        refine at_block ?_
        refine at_then ?_
        refine run_region rfl ?_
        refine ox rfl rfl rfl rfl (ex_move rfl rfl) ?_
        refine ox rfl rfl rfl rfl (ex_sub rfl rfl rfl) ?_
        refine ox rfl rfl rfl rfl (ex_assign rfl rfl) ?_
        refine ops_nil ?_
        exact at_again k580 (ρ1 := [(0, .pointer (some ⟨b0, 0, none⟩)), (2, .pointer (some ⟨b445, 0, none⟩)), (3, .pointer (some ⟨b460, 0, none⟩)), (4, .int .i64 (wrap64 (a563 - 1)))]) (Nat.lt_succ_self _) ⟨_, _, _, _, ho533, rfl, HM⟩ (Sub.cons rfl (Sub.cons rfl (Sub.cons rfl (Sub.cons rfl Sub.nil))))
    · replace ho533 := cond_f hb582 ho533
      refine run_exit ?_
      refine at_then_exit ?_
      refine at_then_exit ?_
      refine at_block_exit ?_
      exact at_mid (ρ' := [(0, .pointer (some ⟨b0, 0, none⟩)), (2, .pointer (some ⟨b445, 0, none⟩)), (3, .pointer (some ⟨b460, 0, none⟩))]) ⟨_, _, _, (Option.some.inj ho533), rfl, HM⟩ (Sub.cons rfl (Sub.cons rfl (Sub.cons rfl Sub.nil)))
  · rintro _ w665 ⟨a528, v529, a530, rfl, rfl, HM⟩
    replace H := cur2_mk H
    refine run_seq ?_
    obtain ⟨t666, h667, H⟩ := bind_some H
    refine run_region rfl ?_
    refine ox rfl rfl rfl rfl (ex_move rfl rfl) ?_
    refine ox rfl rfl rfl rfl (ex_fieldAddr (off' := 0) rfl rfl Tryz.underlying42 rfl tsz40 rfl) ?_
    refine ox rfl rfl rfl rfl (ex_load1 rfl rfl Tryz.underlying40 rfl ((HM.box_at 2 rfl) 0 _ rfl)) ?_
    refine ox rfl rfl rfl rfl (ex_len (d := kInt) (xs := a530) rfl rfl Tryz.underlying40 (HM.own_rd 3 rfl)) ?_
    obtain ⟨F668, hF669, hFn670, hFl671, HMh672, hcl673⟩ := HM.hide (Ms := [box b0 70 [p0_0, .int .i64 a528]])
    refine od rfl rfl rfl rfl (does_callk rfl callok19 rfl (spec_l1Next.calls (x0 := (⟨x0.fCode, a528⟩ : l1Src)) (x1 := (a530.length : Int)) (hide_olds _ _) hF669 hFn670 hFl671 (HMh672.rdo hwo hp0_0) h667)) ?_
    rintro _ w674 ⟨rfl, hn⟩
    replace HM : Mem w X w674 [box b0 70 [p0_0, .int .i64 t666.2], box b445 42 [.slice none 0 0, .int .i64 0, .int .i64 0], box b460 42 [v529, .int .i64 0, .int .i64 0], own kInt 2 v529 a530] := hcl673 _ _ hn
    refine ox rfl rfl rfl rfl (ex_add rfl rfl rfl) ?_
    refine ox rfl rfl rfl rfl (ex_fieldAddr (off' := 1) rfl rfl Tryz.underlying42 rfl tsz2 rfl) ?_
    replace HM := HM.front 2 rfl rfl
    refine odS rfl rfl rfl (does_store (vs := [.int .i64 (wrap64 (1 + t666.1))]) (cs' := [v529, .int .i64 (wrap64 (1 + t666.1)), .int .i64 0]) rfl rfl rfl rfl tsz2 (Ones.int Ones.nil) rfl rfl HM) ?_
    rintro w675 HM
    refine ops_nil (at_then (run_seq ?_))
    obtain ⟨t676, h677, H⟩ := bind_some H
    obtain ⟨t687, h688, H⟩ := bind_some H
    refine run_region rfl ?_
    refine ox rfl rfl rfl rfl (ex_move rfl rfl) ?_
    refine ox rfl rfl rfl rfl (ex_move rfl rfl) ?_
    replace HM := HM.front 1 rfl rfl
    obtain ⟨F678, hF679, hFn680, hFl681, HMh682, hcl683⟩ := HM.hide (Ms := [box b0 70 [p0_0, .int .i64 t666.2]])
    refine od rfl rfl rfl rfl (does_callk rfl callok19 rfl (spec_l1Next.calls (x0 := (⟨x0.fCode, t666.2⟩ : l1Src)) (x1 := 9) (hide_olds _ _) hF679 hFn680 hFl681 (HMh682.rdo hwo hp0_0) h677)) ?_
    rintro _ w695 ⟨rfl, hn⟩
    replace HM : Mem w X w695 [box b0 70 [p0_0, .int .i64 t676.2], box b460 42 [v529, .int .i64 (wrap64 (1 + t666.1)), .int .i64 0], box b445 42 [.slice none 0 0, .int .i64 0, .int .i64 0], own kInt 2 v529 a530] := hcl683 _ _ hn
    refine od rfl rfl rfl rfl (does_lit (e := 2) (cs := [.int .i64 0, .int .i64 0, .int .i64 0, .int .i64 t676.1]) (xs := ([0, 0, 0, t676.1] : List Int)) kInt rfl rfl (fun _ => by kernel_rfl) rfl rfl (fun _ _ h => by have h' : _ = [] := h; subst h'; exact (Elems.cons (d := kInt) (x := 0) (f := []) ⟨rfl, rfl⟩ (Elems.cons (d := kInt) (x := 0) (f := []) ⟨rfl, rfl⟩ (Elems.cons (d := kInt) (x := 0) (f := []) ⟨rfl, rfl⟩ (Elems.cons (d := kInt) (x := t676.1) (f := []) ⟨rfl, rfl⟩ .nil))))) HM.emp) ?_
    rintro v684 w696 HM
    replace HM := HM.front 1 rfl rfl
    obtain ⟨F689, hF690, hFn691, hFl692, HMh693, hcl694⟩ := HM.hide (Ms := [box b0 70 [p0_0, .int .i64 t676.2]])
    refine od rfl rfl rfl rfl (does_callk rfl callok20 rfl (spec_l1Pick.calls (x0 := (⟨x0.fCode, t676.2⟩ : l1Src)) (x1 := ([0, 0, 0, t676.1] : List Int)) (hide_olds _ _) hF690 hFn691 hFl692 (HMh693.rdo hwo hp0_0) (HMh693.own_rd 0 rfl) h688)) ?_
    rintro _ w697 ⟨rfl, hn⟩
    replace HM : Mem w X w697 [box b0 70 [p0_0, .int .i64 t687.2], own kInt 2 v684 ([0, 0, 0, t676.1] : List Int), box b460 42 [v529, .int .i64 (wrap64 (1 + t666.1)), .int .i64 0], box b445 42 [.slice none 0 0, .int .i64 0, .int .i64 0], own kInt 2 v529 a530] := hcl694 _ _ hn
    refine ox rfl rfl rfl rfl (ex_fieldAddr (off' := 2) rfl rfl Tryz.underlying42 rfl tsz2 rfl) ?_
    replace HM := HM.front 2 rfl rfl
    refine odS rfl rfl rfl (does_store (vs := [.int .i64 t687.1]) (cs' := [v529, .int .i64 (wrap64 (1 + t666.1)), .int .i64 t687.1]) rfl rfl rfl rfl tsz2 (Ones.int Ones.nil) rfl rfl HM) ?_
    rintro w698 HM
    refine ops_nil (at_then (run_seq ?_))
    refine run_region rfl ?_
    refine ox rfl rfl rfl rfl (ex_loadN (cs := [v529, (.int .i64 (wrap64 (1 + t666.1))), (.int .i64 t687.1)]) rfl rfl Tryz.underlying42 rfl tsz42 rfl ((HM.box_at 0 rfl).sub 0 3 rfl)) ?_
    replace HM := HM.front 3 rfl rfl
    refine odS rfl rfl rfl (does_store (vs := [v529, .int .i64 (wrap64 (1 + t666.1)), .int .i64 t687.1]) (cs' := [v529, .int .i64 (wrap64 (1 + t666.1)), .int .i64 t687.1]) rfl rfl rfl rfl tsz42 (Ones.rd (HM.own_rd 4 rfl) (Ones.int (Ones.int Ones.nil))) rfl rfl HM) ?_
    rintro w699 HM
    refine ops_nil (at_then ?_)
    refine run_ret ?_
    replace HM := (HM.front 1 rfl rfl).drop
    replace HM := (HM.front 2 rfl rfl).drop
    replace HM := HM.front 1 rfl rfl
    replace HM := HM.front 2 rfl rfl
    replace HM := HM.front 2 rfl rfl
    have hcb0 := HM.box_at 0 rfl
    replace HM := (HM.front 0 rfl rfl).drop
    have hR := Option.some.inj H
    subst hR
    exact at_retN rfl rfl Tryz.underlying42 rfl tsz42 rfl hcb0 ⟨_, rfl, _, rfl, HM⟩
end Go.Proofs.YtmaolhocmkkmjaaGreatDoor.Zk
