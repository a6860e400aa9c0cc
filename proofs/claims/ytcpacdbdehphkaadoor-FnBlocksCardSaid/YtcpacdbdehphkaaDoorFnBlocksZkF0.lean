/- What functions of the program compute, each as a plain function, and that they do. Conditions: as each theorem states them. -/
import Derived.Test.YtcpacdbdehphkaaDoorFnBlocksZkTy
namespace Go.Proofs.YtcpacdbdehphkaaDoor.Zk
open Go Go.RowKit Go.IntWalk Go.Proofs
set_option linter.unusedVariables false
set_option linter.unusedSimpArgs false
set_option maxRecDepth 100000
set_option maxHeartbeats 4000000
def laws_lwBig.f (k : Nat) (x0 : List Int) : Option Bool := some (decide (1048576 < (x0.length : Int)))
theorem laws_lwBig.calls {k : Nat} {x0 : List Int} {p0 : Value} {w : World} (hp0 : RdS kU8 w p0 x0) {r : Bool} (H : laws_lwBig.f k x0 = some r) :
    Calls Tryd.prog 17 ([p0] : List Value).toArray w (fun e w_ => ∃ v, e = .returned v ∧ v = (.bool r) ∧ Mem w [] w_ []) := by
  have HM := Mem.start w
  refine calls_run (N := 6) Tryd.func17 rfl rfl rfl rfl ?_
  unfold laws_lwBig.f at H
  refine run_seq ?_
  refine run_region rfl ?_
  refine ops_ex rfl (guard_none rfl) rfl rfl (ex_assign rfl rfl) ?_
  refine ops_nil ?_
  refine at_then ?_
  refine run_seq ?_
  refine run_region rfl ?_
  refine ops_ex rfl (guard_none rfl) rfl rfl (ex_move rfl rfl) ?_
  refine ops_ex rfl (guard_none rfl) rfl rfl (ex_len (d := kU8) (xs := x0) rfl rfl Tryd.underlying47 hp0) ?_
  refine ops_ex rfl (guard_none rfl) rfl rfl (ex_gtr rfl rfl rfl) ?_
  refine ops_ex rfl (guard_none rfl) rfl rfl (ex_assign rfl rfl) ?_
  refine ops_nil ?_
  refine at_then ?_
  refine run_ret ?_
  have hR := Option.some.inj H
  subst hR
  exact at_ret1 rfl rfl ⟨_, rfl, rfl, HM⟩

def spec_l1Source.f (k : Nat) (x0 : List Int) : Option Int := some 0
theorem spec_l1Source.calls {k : Nat} {x0 : List Int} {p0 : Value} {w : World} (hp0 : RdS kU8 w p0 x0) {r : Int} (H : spec_l1Source.f k x0 = some r) :
    Calls Tryd.prog 44 ([p0] : List Value).toArray w (fun e w_ => ∃ v, e = .returned v ∧ ∃ ub : Nat, v = (.pointer (some ⟨ub, 0, none⟩)) ∧ Mem w [] w_ [box ub 130 [p0, .int .i64 r]]) := by
  have HM := Mem.start w
  refine calls_run (N := 6) Tryd.func44 rfl rfl rfl rfl ?_
  unfold spec_l1Source.f at H
  refine run_seq ?_
  refine run_region rfl ?_
  refine ops_ex rfl (guard_none rfl) rfl rfl (ex_assign rfl rfl) ?_
  refine ops_nil ?_
  refine at_then ?_
  refine run_seq ?_
  refine run_region rfl ?_
  refine ops_ex rfl (guard_none rfl) rfl rfl (ex_move rfl rfl) ?_
  refine ops_ex rfl (guard_none rfl) rfl rfl (ex_build1 (fun p0 => [(0, p0)]) (fun p0 => #[p0, .int .i64 0]) rfl rfl (fun _ _ _ => by kernel_rfl) hp0.isSl) ?_
  refine ops_does rfl (guard_none rfl) rfl rfl (does_box (cs := [p0, .int .i64 0]) rfl rfl rfl HM) ?_
  rintro _ w13 ⟨b10, rfl, HM⟩
  refine ops_ex rfl (guard_none rfl) rfl rfl (ex_assign rfl rfl) ?_
  refine ops_nil ?_
  refine at_then ?_
  refine run_ret ?_
  have hR := Option.some.inj H
  subst hR
  exact at_ret1 rfl rfl ⟨_, rfl, _, rfl, HM⟩

def spec_l1Next.f (k : Nat) (x0 : l1Src) (x1 : Int) : Option (Int × Int) := (bif (decide (x1 < 1)) then some (0, wrap64 (x0.fAt + 1)) else (bif ((x0.fCode.length : Int) == 0) then (chk (x1 != 0) (some (Int.tmod (wrap64 ((wrap64 ((wrap64 (x0.fAt + 1)) - 1)) * 7)) x1, wrap64 (x0.fAt + 1)))) else (chk ((x0.fCode.length : Int) != 0) (chk (idxOk (Int.tmod (wrap64 ((wrap64 (x0.fAt + 1)) - 1)) (x0.fCode.length : Int)) x0.fCode.length) (chk ((x0.fCode.length : Int) != 0) (bif (decide (200 < x1)) then (chk ((x0.fCode.length : Int) != 0) (chk (idxOk (Int.tmod (wrap64 ((wrap64 ((wrap64 (x0.fAt + 1)) - 1)) + 1)) (x0.fCode.length : Int)) x0.fCode.length) (chk (x1 != 0) (some (Int.tmod (wrap64 ((wrap64 ((wrap64 ((wrap64 ((wrap64 (gt x0.fCode (Int.tmod (wrap64 ((wrap64 (x0.fAt + 1)) - 1)) (x0.fCode.length : Int)))) + (wrap64 ((IntKind.i64.wrap (Int.tdiv (wrap64 ((wrap64 (x0.fAt + 1)) - 1)) (x0.fCode.length : Int))) * 37)))) * 251)) + (wrap64 ((wrap64 (gt x0.fCode (Int.tmod (wrap64 ((wrap64 ((wrap64 (x0.fAt + 1)) - 1)) + 1)) (x0.fCode.length : Int)))) * 13)))) + (wrap64 ((wrap64 (x0.fAt + 1)) - 1)))) x1, wrap64 (x0.fAt + 1)))))) else (chk (x1 != 0) (some (Int.tmod (wrap64 ((wrap64 (gt x0.fCode (Int.tmod (wrap64 ((wrap64 (x0.fAt + 1)) - 1)) (x0.fCode.length : Int)))) + (wrap64 ((IntKind.i64.wrap (Int.tdiv (wrap64 ((wrap64 (x0.fAt + 1)) - 1)) (x0.fCode.length : Int))) * 37)))) x1, wrap64 (x0.fAt + 1))))))))))
theorem spec_l1Next.calls {k : Nat} {x0 : l1Src} {x1 : Int} {b0 : Nat} {p0_0 : Value} {w wo : World} {X : List Nat} (hwo : Olds wo w X) (hX : Hold w [box b0 130 [p0_0, .int .i64 x0.fAt]] X) (hXn : X.Nodup) (hXl : ∀ b ∈ X, b < w.heap.size) (hp0_0 : RdS kU8 wo p0_0 x0.fCode) {r : Int × Int} (H : spec_l1Next.f k x0 x1 = some r) :
    Calls Tryd.prog 47 ([.pointer (some ⟨b0, 0, none⟩), .int .i64 x1] : List Value).toArray w (fun e w_ => ∃ v, e = .returned v ∧ v = (.int .i64 r.1) ∧ Mem w X w_ [box b0 130 [p0_0, .int .i64 r.2]]) := by
  have HM := Mem.startX hX hXn hXl
  refine calls_run (N := 71) Tryd.func47 rfl rfl rfl rfl ?_
  unfold spec_l1Next.f at H
  refine run_seq ?_
  refine run_region rfl ?_
  refine ops_ex rfl (guard_none rfl) rfl rfl (ex_assign rfl rfl) ?_
  refine ops_nil ?_
  refine at_then ?_
  refine run_seq ?_
  refine run_region rfl ?_
  refine ops_ex rfl (guard_none rfl) rfl rfl (ex_move rfl rfl) ?_
  refine ops_ex rfl (guard_none rfl) rfl rfl (ex_move rfl rfl) ?_
  refine ops_ex rfl (guard_none rfl) rfl rfl (ex_nilCheck rfl rfl) ?_
  refine ops_ex rfl (guard_none rfl) rfl rfl (ex_fieldAddr (off' := 1) rfl rfl Tryd.underlying130 rfl tsz2 rfl) ?_
  refine ops_ex rfl (guard_none rfl) rfl rfl (ex_load1 rfl rfl Tryd.underlying2 rfl ((HM.box_at 0 rfl) 1 _ rfl)) ?_
  refine ops_ex rfl (guard_none rfl) rfl rfl (ex_add rfl rfl rfl) ?_
  refine ops_ex rfl (guard_none rfl) rfl rfl (ex_nilCheck rfl rfl) ?_
  refine ops_ex rfl (guard_none rfl) rfl rfl (ex_fieldAddr (off' := 1) rfl rfl Tryd.underlying130 rfl tsz2 rfl) ?_
  refine ops_doesS rfl (guard_none rfl) rfl (does_store (vs := [.int .i64 (wrap64 (x0.fAt + 1))]) (cs' := [p0_0, .int .i64 (wrap64 (x0.fAt + 1))]) rfl rfl rfl rfl tsz2 (Ones.int Ones.nil) rfl rfl HM) ?_
  rintro w38 HM
  refine ops_nil ?_
  refine at_then ?_
  refine run_seq ?_
  refine run_seq ?_
  refine run_region rfl ?_
  refine ops_ex rfl (guard_none rfl) rfl rfl (ex_move rfl rfl) ?_
  refine ops_ex rfl (guard_none rfl) rfl rfl (ex_lss rfl rfl rfl) ?_
  refine ops_nil ?_
  refine at_then ?_
  refine run_cond (b := (decide (x1 < 1))) rfl (fun hb40 => ?_) (fun hb40 => ?_)
  · replace H := cond_t hb40 H
    refine run_seq ?_
    refine run_region rfl ?_
    refine ops_ex rfl (guard_none rfl) rfl rfl (ex_assign rfl rfl) ?_
    refine ops_nil ?_
    refine at_then ?_
    refine run_ret ?_
    refine at_then_ret ?_
    have hR := Option.some.inj H
    subst hR
    exact at_ret1 rfl rfl ⟨_, rfl, rfl, HM⟩
  · replace H := cond_f hb40 H
    refine run_skip ?_
    refine at_then ?_
    refine run_seq ?_
    refine run_region rfl ?_
    refine ops_ex rfl (guard_none rfl) rfl rfl (ex_move rfl rfl) ?_
    refine ops_ex rfl (guard_none rfl) rfl rfl (ex_nilCheck rfl rfl) ?_
    refine ops_ex rfl (guard_none rfl) rfl rfl (ex_fieldAddr (off' := 1) rfl rfl Tryd.underlying130 rfl tsz2 rfl) ?_
    refine ops_ex rfl (guard_none rfl) rfl rfl (ex_load1 rfl rfl Tryd.underlying2 rfl ((HM.box_at 0 rfl) 1 _ rfl)) ?_
    refine ops_ex rfl (guard_none rfl) rfl rfl (ex_sub rfl rfl rfl) ?_
    refine ops_ex rfl (guard_none rfl) rfl rfl (ex_assign rfl rfl) ?_
    refine ops_nil ?_
    refine at_then ?_
    refine run_seq ?_
    refine run_region rfl ?_
    refine ops_ex rfl (guard_none rfl) rfl rfl (ex_move rfl rfl) ?_
    refine ops_ex rfl (guard_none rfl) rfl rfl (ex_nilCheck rfl rfl) ?_
    refine ops_ex rfl (guard_none rfl) rfl rfl (ex_fieldAddr (off' := 0) rfl rfl Tryd.underlying130 rfl tsz47 rfl) ?_
    refine ops_ex rfl (guard_none rfl) rfl rfl (ex_load1 rfl rfl Tryd.underlying47 rfl ((HM.box_at 0 rfl) 0 _ rfl)) ?_
    refine ops_ex rfl (guard_none rfl) rfl rfl (ex_len (d := kU8) (xs := x0.fCode) rfl rfl Tryd.underlying47 hp0_0) ?_
    refine ops_ex rfl (guard_none rfl) rfl rfl (ex_assign rfl rfl) ?_
    refine ops_nil ?_
    refine at_then ?_
    refine run_seq ?_
    refine run_seq ?_
    refine run_region rfl ?_
    refine ops_ex rfl (guard_none rfl) rfl rfl (ex_move rfl rfl) ?_
    refine ops_ex rfl (guard_none rfl) rfl rfl (ex_eql rfl rfl rfl) ?_
    refine ops_nil ?_
    refine at_then ?_
    refine run_cond (b := ((x0.fCode.length : Int) == 0)) rfl (fun hb43 => ?_) (fun hb43 => ?_)
    · replace H := cond_t hb43 H
      refine run_seq ?_
      obtain ⟨e44, H⟩ := chk_some H
      refine run_region rfl ?_
      refine ops_ex rfl (guard_none rfl) rfl rfl (ex_move rfl rfl) ?_
      refine ops_ex rfl (guard_none rfl) rfl rfl (ex_mul rfl rfl rfl) ?_
      refine ops_ex rfl (guard_none rfl) rfl rfl (ex_move rfl rfl) ?_
      refine ops_ex rfl (guard_none rfl) rfl rfl (ex_remk rfl rfl rfl e44) ?_
      refine ops_ex rfl (guard_none rfl) rfl rfl (ex_assign rfl rfl) ?_
      refine ops_nil ?_
      refine at_then ?_
      refine run_ret ?_
      refine at_then_ret ?_
      have hR := Option.some.inj H
      subst hR
      exact at_ret1 rfl rfl ⟨_, rfl, rfl, HM⟩
    · replace H := cond_f hb43 H
      refine run_skip ?_
      refine at_then ?_
      refine run_seq ?_
      obtain ⟨e45, H⟩ := chk_some H
      obtain ⟨e46, H⟩ := chk_some H
      obtain ⟨e48, H⟩ := chk_some H
      refine run_drawf (fun w_ => Mem w X w_ [box b0 130 [p0_0, .int .i64 (wrap64 (x0.fAt + 1))]]) [(0, true), (1, true), (2, true), (3, true), (4, true), (5, true), (6, true), (7, true), (8, true), (9, true), (10, true), (11, true), (12, true), (13, true), (14, true), (15, true)] mixed rfl rfl (by kernel_rfl) ?_
      replace HM := HM.grow (fr_drew _)
      have hS := Mem.suf (M := []) HM
      refine drwp_take rfl (guard_none rfl) rfl rfl (fun w_ hS_ => (ex_move rfl rfl)) hS ?_
      refine drwp_take rfl (guard_none rfl) rfl rfl (fun w_ hS_ => (ex_nilCheck rfl rfl)) hS ?_
      refine drwp_take rfl (guard_none rfl) rfl rfl (fun w_ hS_ => (ex_fieldAddr (off' := 0) rfl rfl Tryd.underlying130 rfl tsz47 rfl)) hS ?_
      refine drwp_take rfl (guard_none rfl) rfl rfl (fun w_ hS_ => (ex_load1 rfl rfl Tryd.underlying47 rfl ((hS_.box_at 0 rfl) 0 _ rfl))) hS ?_
      refine drwp_take rfl (guard_none rfl) rfl rfl (fun w_ hS_ => (ex_move rfl rfl)) hS ?_
      refine drwp_take rfl (guard_none rfl) rfl rfl (fun w_ hS_ => (ex_move rfl rfl)) hS ?_
      refine drwp_take rfl (guard_none rfl) rfl rfl (fun w_ hS_ => (ex_remk rfl rfl rfl e45)) hS ?_
      have hc47 : CellsAt _ (sb p0_0) (so p0_0 + (Int.tmod (wrap64 ((wrap64 (x0.fAt + 1)) - 1)) (x0.fCode.length : Int)).toNat * 1) [(.int .u8 (gt x0.fCode (Int.tmod (wrap64 ((wrap64 (x0.fAt + 1)) - 1)) (x0.fCode.length : Int))))] := rd_plain hp0_0 e46
      refine drwp_take rfl (guard_none rfl) rfl rfl (fun w_ hS_ => (ex_indexAddr (d := kU8) rfl rfl rfl Tryd.underlying47 tsz5 hp0_0 (idx_lo e46) (idx_hi e46))) hS ?_
      refine drwp_take rfl (guard_none rfl) rfl rfl (fun w_ hS_ => (ex_load1 rfl rfl Tryd.underlying5 rfl ((hS_.ato hwo hc47) 0 _ rfl))) hS ?_
      refine drwp_take rfl (guard_none rfl) rfl rfl (fun w_ hS_ => (ex_conv64 rfl rfl (by rw [Tryd.underlying5]; rfl) Tryd.underlying2)) hS ?_
      refine drwp_take rfl (guard_none rfl) rfl rfl (fun w_ hS_ => (ex_move rfl rfl)) hS ?_
      refine drwp_take rfl (guard_none rfl) rfl rfl (fun w_ hS_ => (ex_move rfl rfl)) hS ?_
      refine drwp_take rfl (guard_none rfl) rfl rfl (fun w_ hS_ => (ex_quok rfl rfl rfl e48)) hS ?_
      refine drwp_take rfl (guard_none rfl) rfl rfl (fun w_ hS_ => (ex_mul rfl rfl rfl)) hS ?_
      refine drwp_take rfl (guard_none rfl) rfl rfl (fun w_ hS_ => (ex_add rfl rfl rfl)) hS ?_
      refine drwp_take rfl (guard_none rfl) rfl rfl (fun w_ hS_ => (ex_assign rfl rfl)) hS ?_
      refine drwp_done ?_
      refine at_then ?_
      refine run_seq ?_
      refine run_seq ?_
      refine run_region rfl ?_
      refine ops_ex rfl (guard_none rfl) rfl rfl (ex_move rfl rfl) ?_
      refine ops_ex rfl (guard_none rfl) rfl rfl (ex_gtr rfl rfl rfl) ?_
      refine ops_nil ?_
      refine at_then ?_
      refine run_cond (b := (decide (200 < x1))) rfl (fun hb49 => ?_) (fun hb49 => ?_)
      · replace H := cond_t hb49 H
        obtain ⟨e50, H⟩ := chk_some H
        obtain ⟨e51, H⟩ := chk_some H
        refine run_drawf (fun w_ => Mem w X w_ [box b0 130 [p0_0, .int .i64 (wrap64 (x0.fAt + 1))]]) [(0, true), (1, true), (2, true), (3, true), (4, true), (5, true), (6, true), (7, true), (8, true), (9, true), (10, true), (11, true), (12, true), (13, true), (14, true), (15, true), (16, true), (17, true)] mixed rfl rfl (by kernel_rfl) ?_
        replace HM := HM.grow (fr_drew _)
        have hS := Mem.suf (M := []) HM
        refine drwp_take rfl (guard_none rfl) rfl rfl (fun w_ hS_ => (ex_move rfl rfl)) hS ?_
        refine drwp_take rfl (guard_none rfl) rfl rfl (fun w_ hS_ => (ex_mul rfl rfl rfl)) hS ?_
        refine drwp_take rfl (guard_none rfl) rfl rfl (fun w_ hS_ => (ex_move rfl rfl)) hS ?_
        refine drwp_take rfl (guard_none rfl) rfl rfl (fun w_ hS_ => (ex_nilCheck rfl rfl)) hS ?_
        refine drwp_take rfl (guard_none rfl) rfl rfl (fun w_ hS_ => (ex_fieldAddr (off' := 0) rfl rfl Tryd.underlying130 rfl tsz47 rfl)) hS ?_
        refine drwp_take rfl (guard_none rfl) rfl rfl (fun w_ hS_ => (ex_load1 rfl rfl Tryd.underlying47 rfl ((hS_.box_at 0 rfl) 0 _ rfl))) hS ?_
        refine drwp_take rfl (guard_none rfl) rfl rfl (fun w_ hS_ => (ex_move rfl rfl)) hS ?_
        refine drwp_take rfl (guard_none rfl) rfl rfl (fun w_ hS_ => (ex_add rfl rfl rfl)) hS ?_
        refine drwp_take rfl (guard_none rfl) rfl rfl (fun w_ hS_ => (ex_move rfl rfl)) hS ?_
        refine drwp_take rfl (guard_none rfl) rfl rfl (fun w_ hS_ => (ex_remk rfl rfl rfl e50)) hS ?_
        have hc52 : CellsAt _ (sb p0_0) (so p0_0 + (Int.tmod (wrap64 ((wrap64 ((wrap64 (x0.fAt + 1)) - 1)) + 1)) (x0.fCode.length : Int)).toNat * 1) [(.int .u8 (gt x0.fCode (Int.tmod (wrap64 ((wrap64 ((wrap64 (x0.fAt + 1)) - 1)) + 1)) (x0.fCode.length : Int))))] := rd_plain hp0_0 e51
        refine drwp_take rfl (guard_none rfl) rfl rfl (fun w_ hS_ => (ex_indexAddr (d := kU8) rfl rfl rfl Tryd.underlying47 tsz5 hp0_0 (idx_lo e51) (idx_hi e51))) hS ?_
        refine drwp_take rfl (guard_none rfl) rfl rfl (fun w_ hS_ => (ex_load1 rfl rfl Tryd.underlying5 rfl ((hS_.ato hwo hc52) 0 _ rfl))) hS ?_
        refine drwp_take rfl (guard_none rfl) rfl rfl (fun w_ hS_ => (ex_conv64 rfl rfl (by rw [Tryd.underlying5]; rfl) Tryd.underlying2)) hS ?_
        refine drwp_take rfl (guard_none rfl) rfl rfl (fun w_ hS_ => (ex_mul rfl rfl rfl)) hS ?_
        refine drwp_take rfl (guard_none rfl) rfl rfl (fun w_ hS_ => (ex_add rfl rfl rfl)) hS ?_
        refine drwp_take rfl (guard_none rfl) rfl rfl (fun w_ hS_ => (ex_move rfl rfl)) hS ?_
        refine drwp_take rfl (guard_none rfl) rfl rfl (fun w_ hS_ => (ex_add rfl rfl rfl)) hS ?_
        refine drwp_take rfl (guard_none rfl) rfl rfl (fun w_ hS_ => (ex_assign rfl rfl)) hS ?_
        refine drwp_done ?_
        refine at_then ?_
        refine run_seq ?_
        obtain ⟨e53, H⟩ := chk_some H
        refine run_region rfl ?_
        refine ops_ex rfl (guard_none rfl) rfl rfl (ex_move rfl rfl) ?_
        refine ops_ex rfl (guard_none rfl) rfl rfl (ex_move rfl rfl) ?_
        refine ops_ex rfl (guard_none rfl) rfl rfl (ex_remk rfl rfl rfl e53) ?_
        refine ops_ex rfl (guard_none rfl) rfl rfl (ex_assign rfl rfl) ?_
        refine ops_nil ?_
        refine at_then ?_
        refine run_ret ?_
        have hR := Option.some.inj H
        subst hR
        exact at_ret1 rfl rfl ⟨_, rfl, rfl, HM⟩
      · replace H := cond_f hb49 H
        refine run_skip ?_
        refine at_then ?_
        refine run_seq ?_
        obtain ⟨e54, H⟩ := chk_some H
        refine run_region rfl ?_
        refine ops_ex rfl (guard_none rfl) rfl rfl (ex_move rfl rfl) ?_
        refine ops_ex rfl (guard_none rfl) rfl rfl (ex_move rfl rfl) ?_
        refine ops_ex rfl (guard_none rfl) rfl rfl (ex_remk rfl rfl rfl e54) ?_
        refine ops_ex rfl (guard_none rfl) rfl rfl (ex_assign rfl rfl) ?_
        refine ops_nil ?_
        refine at_then ?_
        refine run_ret ?_
        have hR := Option.some.inj H
        subst hR
        exact at_ret1 rfl rfl ⟨_, rfl, rfl, HM⟩

def spec_l4Among.l0 (x0 : List Int) (x1 : Int) : Nat → Int → Option (Bool ⊕ Unit)
  | 0, _ => none
  | k + 1, a142 => (bif (decide (a142 < (x0.length : Int))) then (chk (idxOk a142 x0.length) (bif ((gt x0 a142) == x1) then some (.inl true) else spec_l4Among.l0 x0 x1 k (wrap64 (a142 + 1)))) else some (.inr ()))
theorem spec_l4Among.l0_z (x0 : List Int) (x1 : Int) (a142 : Int) : spec_l4Among.l0 x0 x1 0 a142 = none := rfl
theorem spec_l4Among.l0_s (x0 : List Int) (x1 : Int) (k : Nat) (a142 : Int) : spec_l4Among.l0 x0 x1 (k + 1) a142 = (bif (decide (a142 < (x0.length : Int))) then (chk (idxOk a142 x0.length) (bif ((gt x0 a142) == x1) then some (.inl true) else spec_l4Among.l0 x0 x1 k (wrap64 (a142 + 1)))) else some (.inr ())) := rfl
def spec_l4Among.f (k : Nat) (x0 : List Int) (x1 : Int) : Option Bool := ((spec_l4Among.l0 x0 x1 k 0).bind fun o136 => thn o136 (fun r => some r) (fun _ => some false))
theorem spec_l4Among.calls {k : Nat} {x0 : List Int} {x1 : Int} {p0 : Value} {w : World} (hp0 : RdS kInt w p0 x0) {r : Bool} (H : spec_l4Among.f k x0 x1 = some r) :
    Calls Tryd.prog 91 ([p0, .int .i64 x1] : List Value).toArray w (fun e w_ => ∃ v, e = .returned v ∧ v = (.bool r) ∧ Mem w [] w_ []) := by
  have HM := Mem.start w
  refine calls_run (N := 18) Tryd.func91 rfl rfl rfl rfl ?_
  unfold spec_l4Among.f at H
  refine run_seq ?_
  refine run_region rfl ?_
  refine ops_ex rfl (guard_none rfl) rfl rfl (ex_assign rfl rfl) ?_
  refine ops_nil ?_
  refine at_then ?_
  obtain ⟨o136, ho137, H⟩ := bind_some H
  refine run_mid (fun ρ_ w_ => Sum.inr () = o136 ∧ ρ_ = [] ∧ Mem w [] w_ []) ?_ ?_
  · skip
    refine run_seq ?_
    refine run_region rfl ?_
    refine ops_ex rfl (guard_none rfl) rfl rfl (ex_assign rfl rfl) ?_
    refine ops_nil ?_
    refine at_then ?_
    refine run_block ?_
    refine run_loop (fun k_ ρ_ w_ => ∃ a142 : Int, spec_l4Among.l0 x0 x1 k_ a142 = some o136 ∧ ρ_ = [(0, p0), (1, .int .i64 x1), (5, .int .i64 a142)] ∧ Mem w [] w_ []) k (ρ1 := [(0, p0), (1, .int .i64 x1), (5, .int .i64 0)]) ⟨_, ho137, rfl, HM⟩ (Sub.cons rfl (Sub.cons rfl (Sub.cons rfl Sub.nil))) ?_
    clear HM ho137
    rintro k147 _ w148 ⟨a142, ho137, rfl, HM⟩
    obtain _ | k147 := k147
    · exact nomatch ((spec_l4Among.l0_z x0 x1 a142).symm.trans ho137)
    replace ho137 := (spec_l4Among.l0_s x0 x1 k147 a142).symm.trans ho137
    refine run_seq ?_
    refine run_seq ?_
    refine run_region rfl ?_
    refine ops_ex rfl (guard_none rfl) rfl rfl (ex_move rfl rfl) ?_
    refine ops_ex rfl (guard_none rfl) rfl rfl (ex_move rfl rfl) ?_
    refine ops_ex rfl (guard_none rfl) rfl rfl (ex_len (d := kInt) (xs := x0) rfl rfl Tryd.underlying38 hp0) ?_
    refine ops_ex rfl (guard_none rfl) rfl rfl (ex_lss rfl rfl rfl) ?_
    refine ops_nil ?_
    refine at_then ?_
    refine run_cond (b := (decide (a142 < (x0.length : Int)))) rfl (fun hb149 => ?_) (fun hb149 => ?_)
    · replace ho137 := cond_t hb149 ho137
      refine run_skip ?_
      refine at_then ?_
      refine run_seq ?_
      refine run_block ?_
      refine run_seq ?_
      obtain ⟨e150, ho137⟩ := chk_some ho137
      refine run_region rfl ?_
      refine ops_ex rfl (guard_none rfl) rfl rfl (ex_move rfl rfl) ?_
      refine ops_ex rfl (guard_none rfl) rfl rfl (ex_move rfl rfl) ?_
      have hc151 : CellsAt _ (sb p0) (so p0 + (a142).toNat * 1) [(.int .i64 (gt x0 a142))] := rd_plain hp0 e150
      refine ops_ex rfl (guard_none rfl) rfl rfl (ex_indexAddr (d := kInt) rfl rfl rfl Tryd.underlying38 tsz2 hp0 (idx_lo e150) (idx_hi e150)) ?_
      refine ops_ex rfl (guard_none rfl) rfl rfl (ex_load1 rfl rfl Tryd.underlying2 rfl ((HM.at_ hc151) 0 _ rfl)) ?_
      refine ops_ex rfl (guard_none rfl) rfl rfl (ex_move rfl rfl) ?_
      refine ops_ex rfl (guard_none rfl) rfl rfl (ex_eql rfl rfl rfl) ?_
      refine ops_nil ?_
      refine at_then ?_
      refine run_cond (b := ((gt x0 a142) == x1)) rfl (fun hb152 => ?_) (fun hb152 => ?_)
      · replace ho137 := cond_t hb152 ho137
        refine run_seq ?_
        refine run_region rfl ?_
        refine ops_ex rfl (guard_none rfl) rfl rfl (ex_assign rfl rfl) ?_
        refine ops_nil ?_
        refine at_then ?_
        refine run_ret ?_
        refine at_block_ret ?_
        refine at_then_ret ?_
        refine at_then_ret ?_
        refine at_block_ret ?_
        refine at_then_ret ?_
        have hR := Option.some.inj ho137
        subst hR
        have hT := thn_inl H
        have hR := Option.some.inj hT
        subst hR
        exact at_ret1 rfl rfl ⟨_, rfl, rfl, HM⟩
      · replace ho137 := cond_f hb152 ho137
        refine run_skip ?_
        refine at_block ?_
        refine at_then ?_
        refine run_region rfl ?_
        refine ops_ex rfl (guard_none rfl) rfl rfl (ex_move rfl rfl) ?_
        refine ops_ex rfl (guard_none rfl) rfl rfl (ex_add rfl rfl rfl) ?_
        refine ops_ex rfl (guard_none rfl) rfl rfl (ex_assign rfl rfl) ?_
        refine ops_nil ?_
        exact at_again k147 (ρ1 := [(0, p0), (1, .int .i64 x1), (5, .int .i64 (wrap64 (a142 + 1)))]) (Nat.lt_succ_self _) ⟨_, ho137, rfl, HM⟩ (Sub.cons rfl (Sub.cons rfl (Sub.cons rfl Sub.nil)))
    · replace ho137 := cond_f hb149 ho137
      refine run_exit ?_
      refine at_then_exit ?_
      refine at_then_exit ?_
      refine at_block_exit ?_
      exact at_mid (ρ' := []) ⟨(Option.some.inj ho137), rfl, HM⟩ Sub.nil
  · rintro _ w153 ⟨rfl, rfl, HM⟩
    replace H := (thn_inr H)
    refine run_seq ?_
    refine run_region rfl ?_
    refine ops_ex rfl (guard_none rfl) rfl rfl (ex_assign rfl rfl) ?_
    refine ops_nil ?_
    refine at_then ?_
    refine run_ret ?_
    have hR := Option.some.inj H
    subst hR
    exact at_ret1 rfl rfl ⟨_, rfl, rfl, HM⟩

def spec_l7Draw.l0 (x0 : l1Src) : Nat → Int → (List Int) → Int → Option (Int × (List Int))
  | 0, _, _, _ => none
  | k + 1, a423, a425, a427 => (bif (decide (0 < a427)) then ((spec_l1Next.f k (⟨x0.fCode, a423⟩ : l1Src) 20).bind fun t450 => ((spec_l4Among.f k a425 (wrap64 (1 + t450.1))).bind fun t459 => (bif !t459 then (chk (leB ((a425.length + ([wrap64 (1 + t450.1)] : List Int).length) * 8) 140737488355328) (spec_l7Draw.l0 x0 k t450.2 (a425 ++ ([wrap64 (1 + t450.1)] : List Int)) (wrap64 (a427 - 1)))) else spec_l7Draw.l0 x0 k t450.2 a425 (wrap64 (a427 - 1))))) else some (a423, a425))
theorem spec_l7Draw.l0_z (x0 : l1Src) (a423 : Int) (a425 : List Int) (a427 : Int) : spec_l7Draw.l0 x0 0 a423 a425 a427 = none := rfl
theorem spec_l7Draw.l0_s (x0 : l1Src) (k : Nat) (a423 : Int) (a425 : List Int) (a427 : Int) : spec_l7Draw.l0 x0 (k + 1) a423 a425 a427 = (bif (decide (0 < a427)) then ((spec_l1Next.f k (⟨x0.fCode, a423⟩ : l1Src) 20).bind fun t450 => ((spec_l4Among.f k a425 (wrap64 (1 + t450.1))).bind fun t459 => (bif !t459 then (chk (leB ((a425.length + ([wrap64 (1 + t450.1)] : List Int).length) * 8) 140737488355328) (spec_l7Draw.l0 x0 k t450.2 (a425 ++ ([wrap64 (1 + t450.1)] : List Int)) (wrap64 (a427 - 1)))) else spec_l7Draw.l0 x0 k t450.2 a425 (wrap64 (a427 - 1))))) else some (a423, a425)) := rfl
def spec_l7Draw.f (k : Nat) (x0 : l1Src) : Option (Block × Int) := ((spec_l1Next.f k x0 9).bind fun t237 => ((spec_l1Next.f k (⟨x0.fCode, t237.2⟩ : l1Src) 9).bind fun t245 => ((spec_l1Next.f k (⟨x0.fCode, t245.2⟩ : l1Src) 4).bind fun t253 => ((bif (t237.1 == 0) then some 1 else some (wrap64 (2 + t245.1))).bind (fun a271 => (((spec_l1Next.f k (⟨x0.fCode, t253.2⟩ : l1Src) 4).bind fun t373 => spec_l7Draw.l0 x0 k t373.2 ([] : List Int) t373.1).bind (cur2 (fun a367 a369 => some ((⟨t237.1, a271, wrap64 (1 + t253.1), a369⟩ : Block), a367)))))))))
theorem spec_l7Draw.calls {k : Nat} {x0 : l1Src} {b0 : Nat} {p0_0 : Value} {w wo : World} {X : List Nat} (hwo : Olds wo w X) (hX : Hold w [box b0 130 [p0_0, .int .i64 x0.fAt]] X) (hXn : X.Nodup) (hXl : ∀ b ∈ X, b < w.heap.size) (hp0_0 : RdS kU8 wo p0_0 x0.fCode) {r : Block × Int} (H : spec_l7Draw.f k x0 = some r) :
    Calls Tryd.prog 45 ([.pointer (some ⟨b0, 0, none⟩)] : List Value).toArray w (fun e w_ => ∃ v, e = .returned v ∧ ∃ u0 : Value, v = (.agg #[.int .i64 r.1.fPrev, .int .i64 r.1.fHeight, .int .i64 r.1.fMiner, u0]) ∧ Mem w X w_ [own kInt 2 u0 r.1.fTxs, box b0 130 [p0_0, .int .i64 r.2]]) := by
  have HM := Mem.startX hX hXn hXl
  refine calls_run (N := 40) Tryd.func45 rfl rfl rfl rfl ?_
  unfold spec_l7Draw.f at H
  refine run_seq ?_
  refine run_region rfl ?_
  refine ops_does rfl (guard_none rfl) rfl rfl (does_alloc (cs := [.int .i64 0, .int .i64 0, .int .i64 0, .slice none 0 0]) rfl tz51 rfl HM) ?_
  rintro _ w236 ⟨b233, rfl, HM⟩
  refine ops_nil ?_
  refine at_then ?_
  refine run_seq ?_
  obtain ⟨t237, h238, H⟩ := bind_some H
  obtain ⟨t245, h246, H⟩ := bind_some H
  obtain ⟨t253, h254, H⟩ := bind_some H
  refine run_region rfl ?_
  refine ops_ex rfl (guard_none rfl) rfl rfl (ex_move rfl rfl) ?_
  replace HM := HM.front 1 rfl rfl
  obtain ⟨F239, hF240, hFn241, hFl242, HMh243, hcl244⟩ := HM.hide (Ms := [box b0 130 [p0_0, .int .i64 x0.fAt]])
  refine ops_does rfl (guard_none rfl) rfl rfl (does_callk rfl callok47 rfl (spec_l1Next.calls (x0 := x0) (x1 := 9) (hide_olds _ _) hF240 hFn241 hFl242 (HMh243.rdo hwo hp0_0) h238)) ?_
  rintro _ w264 ⟨rfl, hn⟩
  replace HM : Mem w X w264 [box b0 130 [p0_0, .int .i64 t237.2], box b233 51 [.int .i64 0, .int .i64 0, .int .i64 0, .slice none 0 0]] := hcl244 _ _ hn
  refine ops_ex rfl (guard_none rfl) rfl rfl (ex_move rfl rfl) ?_
  obtain ⟨F247, hF248, hFn249, hFl250, HMh251, hcl252⟩ := HM.hide (Ms := [box b0 130 [p0_0, .int .i64 t237.2]])
  refine ops_does rfl (guard_none rfl) rfl rfl (does_callk rfl callok47 rfl (spec_l1Next.calls (x0 := (⟨x0.fCode, t237.2⟩ : l1Src)) (x1 := 9) (hide_olds _ _) hF248 hFn249 hFl250 (HMh251.rdo hwo hp0_0) h246)) ?_
  rintro _ w265 ⟨rfl, hn⟩
  replace HM : Mem w X w265 [box b0 130 [p0_0, .int .i64 t245.2], box b233 51 [.int .i64 0, .int .i64 0, .int .i64 0, .slice none 0 0]] := hcl252 _ _ hn
  refine ops_ex rfl (guard_none rfl) rfl rfl (ex_add rfl rfl rfl) ?_
  refine ops_ex rfl (guard_none rfl) rfl rfl (ex_move rfl rfl) ?_
  obtain ⟨F255, hF256, hFn257, hFl258, HMh259, hcl260⟩ := HM.hide (Ms := [box b0 130 [p0_0, .int .i64 t245.2]])
  refine ops_does rfl (guard_none rfl) rfl rfl (does_callk rfl callok47 rfl (spec_l1Next.calls (x0 := (⟨x0.fCode, t245.2⟩ : l1Src)) (x1 := 4) (hide_olds _ _) hF256 hFn257 hFl258 (HMh259.rdo hwo hp0_0) h254)) ?_
  rintro _ w266 ⟨rfl, hn⟩
  replace HM : Mem w X w266 [box b0 130 [p0_0, .int .i64 t253.2], box b233 51 [.int .i64 0, .int .i64 0, .int .i64 0, .slice none 0 0]] := hcl260 _ _ hn
  refine ops_ex rfl (guard_none rfl) rfl rfl (ex_add rfl rfl rfl) ?_
  refine ops_ex rfl (guard_none rfl) rfl rfl (ex_build (cells := #[(.int .i64 t237.1), (.int .i64 (wrap64 (2 + t245.1))), (.int .i64 (wrap64 (1 + t253.1))), (.slice none 0 0)]) rfl rfl (by kernel_rfl)) ?_
  refine ops_does rfl (guard_none rfl) rfl rfl (does_alloc (cs := [.int .i64 0, .int .i64 0, .int .i64 0, .slice none 0 0]) rfl tz51 rfl HM) ?_
  rintro _ w267 ⟨b261, rfl, HM⟩
  refine ops_doesS rfl (guard_none rfl) rfl (does_store (vs := [.int .i64 t237.1, .int .i64 (wrap64 (2 + t245.1)), .int .i64 (wrap64 (1 + t253.1)), .slice none 0 0]) (cs' := [.int .i64 t237.1, .int .i64 (wrap64 (2 + t245.1)), .int .i64 (wrap64 (1 + t253.1)), .slice none 0 0]) rfl rfl rfl rfl tsz51 (Ones.int (Ones.int (Ones.int (Ones.sl Ones.nil)))) rfl rfl HM) ?_
  rintro w268 HM
  refine ops_nil ?_
  refine at_then ?_
  obtain ⟨o272, ho273, H⟩ := bind_some H
  refine run_mid (fun ρ_ w_ => ∃ a271 : Int, a271 = o272 ∧ ρ_ = [(0, .pointer (some ⟨b0, 0, none⟩)), (2, .pointer (some ⟨b233, 0, none⟩)), (3, .pointer (some ⟨b261, 0, none⟩))] ∧ Mem w X w_ [box b0 130 [p0_0, .int .i64 t253.2], box b233 51 [.int .i64 0, .int .i64 0, .int .i64 0, .slice none 0 0], box b261 51 [.int .i64 t237.1, .int .i64 a271, .int .i64 (wrap64 (1 + t253.1)), .slice none 0 0]]) ?_ ?_
  · clear H
    refine run_seq ?_
    refine run_region rfl ?_
    refine ops_ex rfl (guard_none rfl) rfl rfl (ex_fieldAddr (off' := 0) rfl rfl Tryd.underlying51 rfl tsz2 rfl) ?_
    refine ops_ex rfl (guard_none rfl) rfl rfl (ex_load1 rfl rfl Tryd.underlying2 rfl ((HM.box_at 0 rfl) 0 _ rfl)) ?_
    refine ops_ex rfl (guard_none rfl) rfl rfl (ex_eql rfl rfl rfl) ?_
    refine ops_nil ?_
    refine at_then ?_
    refine run_cond (b := (t237.1 == 0)) rfl (fun hb274 => ?_) (fun hb274 => ?_)
    · replace ho273 := cond_t hb274 ho273
      refine run_region rfl ?_
      refine ops_ex rfl (guard_none rfl) rfl rfl (ex_fieldAddr (off' := 1) rfl rfl Tryd.underlying51 rfl tsz2 rfl) ?_
      refine ops_doesS rfl (guard_none rfl) rfl (does_store (vs := [.int .i64 1]) (cs' := [.int .i64 t237.1, .int .i64 1, .int .i64 (wrap64 (1 + t253.1)), .slice none 0 0]) rfl rfl rfl rfl tsz2 (Ones.int Ones.nil) rfl rfl HM) ?_
      rintro w275 HM
      refine ops_nil ?_
      replace HM := HM.front 2 rfl rfl
      replace HM := HM.front 2 rfl rfl
      exact at_mid (ρ' := [(0, .pointer (some ⟨b0, 0, none⟩)), (2, .pointer (some ⟨b233, 0, none⟩)), (3, .pointer (some ⟨b261, 0, none⟩))]) ⟨_, (Option.some.inj ho273), rfl, HM⟩ (Sub.cons rfl (Sub.cons rfl (Sub.cons rfl Sub.nil)))
    · replace ho273 := cond_f hb274 ho273
      refine run_skip ?_
      replace HM := HM.front 2 rfl rfl
      replace HM := HM.front 2 rfl rfl
      exact at_mid (ρ' := [(0, .pointer (some ⟨b0, 0, none⟩)), (2, .pointer (some ⟨b233, 0, none⟩)), (3, .pointer (some ⟨b261, 0, none⟩))]) ⟨_, (Option.some.inj ho273), rfl, HM⟩ (Sub.cons rfl (Sub.cons rfl (Sub.cons rfl Sub.nil)))
  · rintro _ w276 ⟨a271, rfl, rfl, HM⟩
    obtain ⟨o371, ho372, H⟩ := bind_some H
    refine run_mid (fun ρ_ w_ => ∃ a367 : Int, ∃ v368 : Value, ∃ a369 : List Int, (a367, a369) = o371 ∧ ρ_ = [(2, .pointer (some ⟨b233, 0, none⟩)), (3, .pointer (some ⟨b261, 0, none⟩))] ∧ Mem w X w_ [box b0 130 [p0_0, .int .i64 a367], box b233 51 [.int .i64 0, .int .i64 0, .int .i64 0, .slice none 0 0], box b261 51 [.int .i64 t237.1, .int .i64 a271, .int .i64 (wrap64 (1 + t253.1)), v368], own kInt 2 v368 a369]) ?_ ?_
    · clear H
      refine run_seq ?_
      obtain ⟨t373, h374, ho372⟩ := bind_some ho372
      refine run_region rfl ?_
      refine ops_ex rfl (guard_none rfl) rfl rfl (ex_move rfl rfl) ?_
      obtain ⟨F375, hF376, hFn377, hFl378, HMh379, hcl380⟩ := HM.hide (Ms := [box b0 130 [p0_0, .int .i64 t253.2]])
      refine ops_does rfl (guard_none rfl) rfl rfl (does_callk rfl callok47 rfl (spec_l1Next.calls (x0 := (⟨x0.fCode, t253.2⟩ : l1Src)) (x1 := 4) (hide_olds _ _) hF376 hFn377 hFl378 (HMh379.rdo hwo hp0_0) h374)) ?_
      rintro _ w381 ⟨rfl, hn⟩
      replace HM : Mem w X w381 [box b0 130 [p0_0, .int .i64 t373.2], box b233 51 [.int .i64 0, .int .i64 0, .int .i64 0, .slice none 0 0], box b261 51 [.int .i64 t237.1, .int .i64 a271, .int .i64 (wrap64 (1 + t253.1)), .slice none 0 0]] := hcl380 _ _ hn
      refine ops_ex rfl (guard_none rfl) rfl rfl (ex_assign rfl rfl) ?_
      refine ops_nil ?_
      refine at_then ?_
      refine run_block ?_
      replace HM := HM.empty kInt 2 none
      replace HM := HM.front 3 rfl rfl
      replace HM := HM.front 3 rfl rfl
      replace HM := HM.front 3 rfl rfl
      refine run_loop (fun k_ ρ_ w_ => ∃ a423 : Int, ∃ v424 : Value, ∃ a425 : List Int, ∃ a427 : Int, spec_l7Draw.l0 x0 k_ a423 a425 a427 = some o371 ∧ ρ_ = [(0, .pointer (some ⟨b0, 0, none⟩)), (2, .pointer (some ⟨b233, 0, none⟩)), (3, .pointer (some ⟨b261, 0, none⟩)), (4, .int .i64 a427)] ∧ Mem w X w_ [box b0 130 [p0_0, .int .i64 a423], box b233 51 [.int .i64 0, .int .i64 0, .int .i64 0, .slice none 0 0], box b261 51 [.int .i64 t237.1, .int .i64 a271, .int .i64 (wrap64 (1 + t253.1)), v424], own kInt 2 v424 a425]) k (ρ1 := [(0, .pointer (some ⟨b0, 0, none⟩)), (2, .pointer (some ⟨b233, 0, none⟩)), (3, .pointer (some ⟨b261, 0, none⟩)), (4, .int .i64 t373.1)]) ⟨_, _, _, _, ho372, rfl, HM⟩ (Sub.cons rfl (Sub.cons rfl (Sub.cons rfl (Sub.cons rfl Sub.nil)))) ?_
      clear HM ho372
      rintro k447 _ w448 ⟨a423, v424, a425, a427, ho372, rfl, HM⟩
      obtain _ | k447 := k447
      · exact nomatch ((spec_l7Draw.l0_z x0 a423 a425 a427).symm.trans ho372)
      replace ho372 := (spec_l7Draw.l0_s x0 k447 a423 a425 a427).symm.trans ho372
      refine run_seq ?_
      refine run_seq ?_
      refine run_region rfl ?_
      refine ops_ex rfl (guard_none rfl) rfl rfl (ex_move rfl rfl) ?_
      refine ops_ex rfl (guard_none rfl) rfl rfl (ex_gtr rfl rfl rfl) ?_
      refine ops_nil ?_
      refine at_then ?_
      refine run_cond (b := (decide (0 < a427))) rfl (fun hb449 => ?_) (fun hb449 => ?_)
      · replace ho372 := cond_t hb449 ho372
        refine run_skip ?_
        refine at_then ?_
        refine run_seq ?_
        refine run_block ?_
        refine run_seq ?_
        obtain ⟨t450, h451, ho372⟩ := bind_some ho372
        refine run_region rfl ?_
        refine ops_ex rfl (guard_none rfl) rfl rfl (ex_move rfl rfl) ?_
        obtain ⟨F452, hF453, hFn454, hFl455, HMh456, hcl457⟩ := HM.hide (Ms := [box b0 130 [p0_0, .int .i64 a423]])
        refine ops_does rfl (guard_none rfl) rfl rfl (does_callk rfl callok47 rfl (spec_l1Next.calls (x0 := (⟨x0.fCode, a423⟩ : l1Src)) (x1 := 20) (hide_olds _ _) hF453 hFn454 hFl455 (HMh456.rdo hwo hp0_0) h451)) ?_
        rintro _ w458 ⟨rfl, hn⟩
        replace HM : Mem w X w458 [box b0 130 [p0_0, .int .i64 t450.2], box b233 51 [.int .i64 0, .int .i64 0, .int .i64 0, .slice none 0 0], box b261 51 [.int .i64 t237.1, .int .i64 a271, .int .i64 (wrap64 (1 + t253.1)), v424], own kInt 2 v424 a425] := hcl457 _ _ hn
        refine ops_ex rfl (guard_none rfl) rfl rfl (ex_add rfl rfl rfl) ?_
        refine ops_ex rfl (guard_none rfl) rfl rfl (ex_assign rfl rfl) ?_
        refine ops_nil ?_
        refine at_then ?_
        refine run_seq ?_
        obtain ⟨t459, h460, ho372⟩ := bind_some ho372
        refine run_region rfl ?_
        refine ops_ex rfl (guard_none rfl) rfl rfl (ex_fieldAddr (off' := 3) rfl rfl Tryd.underlying51 rfl tsz38 rfl) ?_
        refine ops_ex rfl (guard_none rfl) rfl rfl (ex_load1 rfl rfl Tryd.underlying38 rfl ((HM.box_at 2 rfl) 3 _ rfl)) ?_
        refine ops_ex rfl (guard_none rfl) rfl rfl (ex_move rfl rfl) ?_
        refine ops_does rfl (guard_none rfl) rfl rfl (does_callk rfl callok91 rfl (spec_l4Among.calls (x0 := a425) (x1 := wrap64 (1 + t450.1)) (HM.own_rd 3 rfl) h460)) ?_
        rintro _ w461 ⟨rfl, hn⟩
        replace HM : Mem w X w461 [box b0 130 [p0_0, .int .i64 t450.2], box b233 51 [.int .i64 0, .int .i64 0, .int .i64 0, .slice none 0 0], box b261 51 [.int .i64 t237.1, .int .i64 a271, .int .i64 (wrap64 (1 + t253.1)), v424], own kInt 2 v424 a425] := HM.call hn
        refine ops_ex rfl (guard_none rfl) rfl rfl (ex_not rfl rfl) ?_
        refine ops_nil ?_
        refine at_then ?_
        refine run_cond (b := !t459) rfl (fun hb462 => ?_) (fun hb462 => ?_)
        · replace ho372 := cond_t hb462 ho372
          obtain ⟨e466, ho372⟩ := chk_some ho372
          refine run_region rfl ?_
          refine ops_ex rfl (guard_none rfl) rfl rfl (ex_fieldAddr (off' := 3) rfl rfl Tryd.underlying51 rfl tsz38 rfl) ?_
          refine ops_ex rfl (guard_none rfl) rfl rfl (ex_load1 rfl rfl Tryd.underlying38 rfl ((HM.box_at 2 rfl) 3 _ rfl)) ?_
          refine ops_ex rfl (guard_none rfl) rfl rfl (ex_move rfl rfl) ?_
          refine ops_does rfl (guard_none rfl) rfl rfl (does_lit (e := 2) (cs := [.int .i64 (wrap64 (1 + t450.1))]) (xs := ([wrap64 (1 + t450.1)] : List Int)) kInt rfl rfl (fun _ => by kernel_rfl) rfl rfl (fun _ _ h => by have h' : _ = [] := h; subst h'; exact (Elems.cons (d := kInt) (x := wrap64 (1 + t450.1)) (f := []) ⟨rfl, rfl⟩ .nil)) HM.emp) ?_
          rintro v463 w469 HM
          replace HM := HM.front 4 rfl rfl
          refine ops_does rfl (guard_none rfl) rfl rfl (does_appendR kInt flat_plain rfl rfl rfl Tryd.underlying38 tsz2 rfl tby2 tz2 rfl rfl (leB_le e466) (HM.own_rd 1 rfl) HM) ?_
          rintro v467 w470 HM
          refine ops_ex rfl (guard_none rfl) rfl rfl (ex_fieldAddr (off' := 3) rfl rfl Tryd.underlying51 rfl tsz38 rfl) ?_
          replace HM := HM.front 4 rfl rfl
          refine ops_doesS rfl (guard_none rfl) rfl (does_store (vs := [v467]) (cs' := [.int .i64 t237.1, .int .i64 a271, .int .i64 (wrap64 (1 + t253.1)), v467]) rfl rfl rfl (rd_cells (HM.own_rd 1 rfl)) tsz38 (Ones.rd (HM.own_rd 1 rfl) Ones.nil) rfl rfl HM) ?_
          rintro w471 HM
          refine ops_nil ?_
          refine at_block ?_
          refine at_then ?_
          refine run_region rfl ?_
          refine ops_ex rfl (guard_none rfl) rfl rfl (ex_move rfl rfl) ?_
          refine ops_ex rfl (guard_none rfl) rfl rfl (ex_sub rfl rfl rfl) ?_
          refine ops_ex rfl (guard_none rfl) rfl rfl (ex_assign rfl rfl) ?_
          refine ops_nil ?_
          replace HM := (HM.front 2 rfl rfl).drop
          replace HM := HM.front 1 rfl rfl
          replace HM := HM.front 1 rfl rfl
          replace HM := HM.front 3 rfl rfl
          replace HM := HM.front 3 rfl rfl
          exact at_again k447 (ρ1 := [(0, .pointer (some ⟨b0, 0, none⟩)), (2, .pointer (some ⟨b233, 0, none⟩)), (3, .pointer (some ⟨b261, 0, none⟩)), (4, .int .i64 (wrap64 (a427 - 1)))]) (Nat.lt_succ_self _) ⟨_, _, _, _, ho372, rfl, HM⟩ (Sub.cons rfl (Sub.cons rfl (Sub.cons rfl (Sub.cons rfl Sub.nil))))
        · replace ho372 := cond_f hb462 ho372
          refine run_skip ?_
          refine at_block ?_
          refine at_then ?_
          refine run_region rfl ?_
          refine ops_ex rfl (guard_none rfl) rfl rfl (ex_move rfl rfl) ?_
          refine ops_ex rfl (guard_none rfl) rfl rfl (ex_sub rfl rfl rfl) ?_
          refine ops_ex rfl (guard_none rfl) rfl rfl (ex_assign rfl rfl) ?_
          refine ops_nil ?_
          exact at_again k447 (ρ1 := [(0, .pointer (some ⟨b0, 0, none⟩)), (2, .pointer (some ⟨b233, 0, none⟩)), (3, .pointer (some ⟨b261, 0, none⟩)), (4, .int .i64 (wrap64 (a427 - 1)))]) (Nat.lt_succ_self _) ⟨_, _, _, _, ho372, rfl, HM⟩ (Sub.cons rfl (Sub.cons rfl (Sub.cons rfl (Sub.cons rfl Sub.nil))))
      · replace ho372 := cond_f hb449 ho372
        refine run_exit ?_
        refine at_then_exit ?_
        refine at_then_exit ?_
        refine at_block_exit ?_
        exact at_mid (ρ' := [(2, .pointer (some ⟨b233, 0, none⟩)), (3, .pointer (some ⟨b261, 0, none⟩))]) ⟨_, _, _, (Option.some.inj ho372), rfl, HM⟩ (Sub.cons rfl (Sub.cons rfl Sub.nil))
    · rintro _ w472 ⟨a367, v368, a369, rfl, rfl, HM⟩
      replace H := cur2_mk H
      refine run_seq ?_
      refine run_region rfl ?_
      refine ops_ex rfl (guard_none rfl) rfl rfl (ex_loadN (cs := [(.int .i64 t237.1), (.int .i64 a271), (.int .i64 (wrap64 (1 + t253.1))), v368]) rfl rfl Tryd.underlying51 rfl tsz51 rfl ((HM.box_at 2 rfl).sub 0 4 rfl)) ?_
      replace HM := HM.front 1 rfl rfl
      refine ops_doesS rfl (guard_none rfl) rfl (does_store (vs := [.int .i64 t237.1, .int .i64 a271, .int .i64 (wrap64 (1 + t253.1)), v368]) (cs' := [.int .i64 t237.1, .int .i64 a271, .int .i64 (wrap64 (1 + t253.1)), v368]) rfl rfl rfl rfl tsz51 (Ones.int (Ones.int (Ones.int (Ones.rd (HM.own_rd 3 rfl) Ones.nil)))) rfl rfl HM) ?_
      rintro w473 HM
      refine ops_nil ?_
      refine at_then ?_
      refine run_ret ?_
      replace HM := (HM.front 2 rfl rfl).drop
      replace HM := HM.front 1 rfl rfl
      replace HM := HM.front 2 rfl rfl
      replace HM := HM.front 2 rfl rfl
      have hcb0 := HM.box_at 0 rfl
      replace HM := (HM.front 0 rfl rfl).drop
      have hR := Option.some.inj H
      subst hR
      exact at_retN rfl rfl Tryd.underlying51 rfl tsz51 rfl hcb0 ⟨_, rfl, _, rfl, HM⟩

def spec_l2Digits.f : Nat → Int → Option ByteArray
  | 0, _ => none
  | k + 1, x0 => (bif (decide (x0 < 10)) then some (strOfNums ([IntKind.u8.wrap (wrap64 (48 + x0))] : List Int)) else (chk ((10 : Int) != 0) (chk ((10 : Int) != 0) ((spec_l2Digits.f k (IntKind.i64.wrap (Int.tdiv x0 (10 : Int)))).bind fun t514 => (chk (leB (t514.size + (strOfNums ([IntKind.u8.wrap (wrap64 (48 + (Int.tmod x0 (10 : Int))))] : List Int)).size) 9223372036854775807) (some (t514 ++ (strOfNums ([IntKind.u8.wrap (wrap64 (48 + (Int.tmod x0 (10 : Int))))] : List Int)))))))))
theorem spec_l2Digits.f_s (k : Nat) (x0 : Int) : spec_l2Digits.f (k + 1) x0 = (bif (decide (x0 < 10)) then some (strOfNums ([IntKind.u8.wrap (wrap64 (48 + x0))] : List Int)) else (chk ((10 : Int) != 0) (chk ((10 : Int) != 0) ((spec_l2Digits.f k (IntKind.i64.wrap (Int.tdiv x0 (10 : Int)))).bind fun t514 => (chk (leB (t514.size + (strOfNums ([IntKind.u8.wrap (wrap64 (48 + (Int.tmod x0 (10 : Int))))] : List Int)).size) 9223372036854775807) (some (t514 ++ (strOfNums ([IntKind.u8.wrap (wrap64 (48 + (Int.tmod x0 (10 : Int))))] : List Int))))))))) := rfl
theorem spec_l2Digits.calls_all : ∀ (k : Nat) (x0 : Int), ∀ {w : World} {r : ByteArray} (H : spec_l2Digits.f k x0 = some r),
    Calls Tryd.prog 66 ([.int .i64 x0] : List Value).toArray w (fun e w_ => ∃ v, e = .returned v ∧ v = (.string r) ∧ Mem w [] w_ []) := by
  intro k
  induction k with
  | zero => intro x0  w  r H; exact nomatch H
  | succ k ih =>
  intro x0  w  r H
  have HM := Mem.start w
  refine calls_run (N := 20) Tryd.func66 rfl rfl rfl rfl ?_
  rw [spec_l2Digits.f_s] at H
  refine run_seq ?_
  refine run_region rfl ?_
  refine ops_ex rfl (guard_none rfl) rfl rfl (ex_assign rfl rfl) ?_
  refine ops_nil ?_
  refine at_then ?_
  refine run_seq ?_
  refine run_seq ?_
  refine run_region rfl ?_
  refine ops_ex rfl (guard_none rfl) rfl rfl (ex_move rfl rfl) ?_
  refine ops_ex rfl (guard_none rfl) rfl rfl (ex_lss rfl rfl rfl) ?_
  refine ops_nil ?_
  refine at_then ?_
  refine run_cond (b := (decide (x0 < 10))) rfl (fun hb507 => ?_) (fun hb507 => ?_)
  · replace H := cond_t hb507 H
    refine run_seq ?_
    refine run_region rfl ?_
    refine ops_ex rfl (guard_none rfl) rfl rfl (ex_move rfl rfl) ?_
    refine ops_ex rfl (guard_none rfl) rfl rfl (ex_add rfl rfl rfl) ?_
    refine ops_ex rfl (guard_none rfl) rfl rfl (ex_conv rfl rfl (by rw [Tryd.underlying2]; rfl) Tryd.underlying5) ?_
    refine ops_does rfl (guard_none rfl) rfl rfl (does_lit (e := 5) (cs := [.int .u8 (IntKind.u8.wrap (wrap64 (48 + x0)))]) (xs := ([IntKind.u8.wrap (wrap64 (48 + x0))] : List Int)) kU8 rfl rfl (fun _ => by kernel_rfl) rfl rfl (fun _ _ h => by have h' : _ = [] := h; subst h'; exact (Elems.cons (d := kU8) (x := IntKind.u8.wrap (wrap64 (48 + x0))) (f := []) ⟨rfl, rfl⟩ .nil)) HM.emp) ?_
    rintro v508 w511 HM
    refine ops_ex rfl (guard_none rfl) rfl rfl (ex_bstr (e := 5) rfl rfl Tryd.underlying47 Tryd.underlying5 Tryd.underlying9 (HM.own_rd 0 rfl)) ?_
    refine ops_ex rfl (guard_none rfl) rfl rfl (ex_assign rfl rfl) ?_
    refine ops_nil ?_
    refine at_then ?_
    refine run_ret ?_
    refine at_then_ret ?_
    replace HM := (HM.front 0 rfl rfl).drop
    have hR := Option.some.inj H
    subst hR
    exact at_ret1 rfl rfl ⟨_, rfl, rfl, HM⟩
  · replace H := cond_f hb507 H
    refine run_skip ?_
    refine at_then ?_
    refine run_seq ?_
    obtain ⟨e512, H⟩ := chk_some H
    obtain ⟨e513, H⟩ := chk_some H
    obtain ⟨t514, h515, H⟩ := bind_some H
    obtain ⟨e519, H⟩ := chk_some H
    refine run_meet (fun ρ_ w_ => ρ_ = [(2, .string (t514 ++ (strOfNums ([IntKind.u8.wrap (wrap64 (48 + (Int.tmod x0 (10 : Int))))] : List Int))))] ∧ Mem w [] w_ []) ?_ ?_
    · skip
      refine run_draw (fun w_ => Mem w [] w_ []) mixed rfl (l := #[false, false, false, false, false, false, false, false, false, false, false]) rfl ?_
      replace HM := HM.grow (fr_drew _)
      have hS := Mem.suf (M := []) HM
      refine drw_take (i := 0) (l' := #[true, false, false, false, false, false, false, false, false, false, false]) rfl (guard_none rfl) rfl rfl (by kernel_rfl) (fun w_ hS_ => (ex_move rfl rfl)) hS ?_
      refine drw_take (i := 1) (l' := #[true, true, false, false, false, false, false, false, false, false, false]) rfl (guard_none rfl) rfl rfl (by kernel_rfl) (fun w_ hS_ => (ex_quok rfl rfl rfl e512)) hS ?_
      refine drw_take (i := 3) (l' := #[true, true, false, true, false, false, false, false, false, false, false]) rfl (guard_none rfl) rfl rfl (by kernel_rfl) (fun w_ hS_ => (ex_move rfl rfl)) hS ?_
      refine drw_take (i := 4) (l' := #[true, true, false, true, true, false, false, false, false, false, false]) rfl (guard_none rfl) rfl rfl (by kernel_rfl) (fun w_ hS_ => (ex_remk rfl rfl rfl e513)) hS ?_
      refine drw_take (i := 5) (l' := #[true, true, false, true, true, true, false, false, false, false, false]) rfl (guard_none rfl) rfl rfl (by kernel_rfl) (fun w_ hS_ => (ex_add rfl rfl rfl)) hS ?_
      refine drw_take (i := 6) (l' := #[true, true, false, true, true, true, true, false, false, false, false]) rfl (guard_none rfl) rfl rfl (by kernel_rfl) (fun w_ hS_ => (ex_conv rfl rfl (by rw [Tryd.underlying2]; rfl) Tryd.underlying5)) hS ?_
      refine drw_any [2, 7] (by kernel_rfl) rfl (.cons ?_ (.cons ?_ .nil))
      · skip
        refine br_does (l' := #[true, true, true, true, true, true, true, false, false, false, false]) rfl (guard_none rfl) rfl rfl (by kernel_rfl) (does_callk rfl callok66 rfl (ih (IntKind.i64.wrap (Int.tdiv x0 (10 : Int))) h515)) ?_
        rintro _ w520 ⟨rfl, hn⟩
        replace HM : Mem w [] w520 [] := HM.call hn
        refine ⟨Mem.suf (M := []) HM, ?_⟩
        have hS := Mem.suf (M := []) HM
        refine drw_any [7] (by kernel_rfl) rfl (.cons ?_ .nil)
        refine br_does (l' := #[true, true, true, true, true, true, true, true, false, false, false]) rfl (guard_none rfl) rfl rfl (by kernel_rfl) (does_lit (e := 5) (cs := [.int .u8 (IntKind.u8.wrap (wrap64 (48 + (Int.tmod x0 (10 : Int)))))]) (xs := ([IntKind.u8.wrap (wrap64 (48 + (Int.tmod x0 (10 : Int))))] : List Int)) kU8 rfl rfl (fun _ => by kernel_rfl) rfl rfl (fun _ _ h => by have h' : _ = [] := h; subst h'; exact (Elems.cons (d := kU8) (x := IntKind.u8.wrap (wrap64 (48 + (Int.tmod x0 (10 : Int))))) (f := []) ⟨rfl, rfl⟩ .nil)) HM.emp) ?_
        rintro v516 w521 HM
        refine ⟨Mem.suf (M := [own kU8 5 v516 ([IntKind.u8.wrap (wrap64 (48 + (Int.tmod x0 (10 : Int))))] : List Int)]) HM, ?_⟩
        have hS := Mem.suf (M := [own kU8 5 v516 ([IntKind.u8.wrap (wrap64 (48 + (Int.tmod x0 (10 : Int))))] : List Int)]) HM
        refine drw_any [8] (by kernel_rfl) rfl (.cons ?_ .nil)
        refine br_does (l' := #[true, true, true, true, true, true, true, true, true, false, false]) rfl (guard_none rfl) rfl rfl (by kernel_rfl) (does_ex' (ex_bstr (e := 5) rfl rfl Tryd.underlying47 Tryd.underlying5 Tryd.underlying9 (HM.own_rd 0 rfl))) ?_
        rintro _ _ ⟨rfl, rfl⟩
        refine ⟨hS, ?_⟩
        refine drw_take (i := 9) (l' := #[true, true, true, true, true, true, true, true, true, true, false]) rfl (guard_none rfl) rfl rfl (by kernel_rfl) (fun w_ hS_ => (ex_sadd rfl rfl rfl (leB_le e519))) hS ?_
        refine drw_take (i := 10) (l' := #[true, true, true, true, true, true, true, true, true, true, true]) rfl (guard_none rfl) rfl rfl (by kernel_rfl) (fun w_ hS_ => (ex_assign rfl rfl)) hS ?_
        refine drw_done (by kernel_rfl) ?_
        replace HM := (HM.front 0 rfl rfl).drop
        exact at_meet [(2, .string (t514 ++ (strOfNums ([IntKind.u8.wrap (wrap64 (48 + (Int.tmod x0 (10 : Int))))] : List Int))))] ⟨rfl, HM⟩ (Sub.cons rfl Sub.nil)
      · skip
        refine br_does (l' := #[true, true, false, true, true, true, true, true, false, false, false]) rfl (guard_none rfl) rfl rfl (by kernel_rfl) (does_lit (e := 5) (cs := [.int .u8 (IntKind.u8.wrap (wrap64 (48 + (Int.tmod x0 (10 : Int)))))]) (xs := ([IntKind.u8.wrap (wrap64 (48 + (Int.tmod x0 (10 : Int))))] : List Int)) kU8 rfl rfl (fun _ => by kernel_rfl) rfl rfl (fun _ _ h => by have h' : _ = [] := h; subst h'; exact (Elems.cons (d := kU8) (x := IntKind.u8.wrap (wrap64 (48 + (Int.tmod x0 (10 : Int))))) (f := []) ⟨rfl, rfl⟩ .nil)) HM.emp) ?_
        rintro v516 w522 HM
        refine ⟨Mem.suf (M := [own kU8 5 v516 ([IntKind.u8.wrap (wrap64 (48 + (Int.tmod x0 (10 : Int))))] : List Int)]) HM, ?_⟩
        have hS := Mem.suf (M := [own kU8 5 v516 ([IntKind.u8.wrap (wrap64 (48 + (Int.tmod x0 (10 : Int))))] : List Int)]) HM
        refine drw_any [2, 8] (by kernel_rfl) rfl (.cons ?_ (.cons ?_ .nil))
        · skip
          refine br_does (l' := #[true, true, true, true, true, true, true, true, false, false, false]) rfl (guard_none rfl) rfl rfl (by kernel_rfl) (does_callk rfl callok66 rfl (ih (IntKind.i64.wrap (Int.tdiv x0 (10 : Int))) h515)) ?_
          rintro _ w523 ⟨rfl, hn⟩
          replace HM : Mem w [] w523 [own kU8 5 v516 ([IntKind.u8.wrap (wrap64 (48 + (Int.tmod x0 (10 : Int))))] : List Int)] := HM.call hn
          refine ⟨Mem.suf (M := [own kU8 5 v516 ([IntKind.u8.wrap (wrap64 (48 + (Int.tmod x0 (10 : Int))))] : List Int)]) HM, ?_⟩
          have hS := Mem.suf (M := [own kU8 5 v516 ([IntKind.u8.wrap (wrap64 (48 + (Int.tmod x0 (10 : Int))))] : List Int)]) HM
          refine drw_any [8] (by kernel_rfl) rfl (.cons ?_ .nil)
          refine br_does (l' := #[true, true, true, true, true, true, true, true, true, false, false]) rfl (guard_none rfl) rfl rfl (by kernel_rfl) (does_ex' (ex_bstr (e := 5) rfl rfl Tryd.underlying47 Tryd.underlying5 Tryd.underlying9 (HM.own_rd 0 rfl))) ?_
          rintro _ _ ⟨rfl, rfl⟩
          refine ⟨hS, ?_⟩
          refine drw_take (i := 9) (l' := #[true, true, true, true, true, true, true, true, true, true, false]) rfl (guard_none rfl) rfl rfl (by kernel_rfl) (fun w_ hS_ => (ex_sadd rfl rfl rfl (leB_le e519))) hS ?_
          refine drw_take (i := 10) (l' := #[true, true, true, true, true, true, true, true, true, true, true]) rfl (guard_none rfl) rfl rfl (by kernel_rfl) (fun w_ hS_ => (ex_assign rfl rfl)) hS ?_
          refine drw_done (by kernel_rfl) ?_
          replace HM := (HM.front 0 rfl rfl).drop
          exact at_meet [(2, .string (t514 ++ (strOfNums ([IntKind.u8.wrap (wrap64 (48 + (Int.tmod x0 (10 : Int))))] : List Int))))] ⟨rfl, HM⟩ (Sub.cons rfl Sub.nil)
        · skip
          refine br_does (l' := #[true, true, false, true, true, true, true, true, true, false, false]) rfl (guard_none rfl) rfl rfl (by kernel_rfl) (does_ex' (ex_bstr (e := 5) rfl rfl Tryd.underlying47 Tryd.underlying5 Tryd.underlying9 (HM.own_rd 0 rfl))) ?_
          rintro _ _ ⟨rfl, rfl⟩
          refine ⟨hS, ?_⟩
          refine drw_any [2] (by kernel_rfl) rfl (.cons ?_ .nil)
          refine br_does (l' := #[true, true, true, true, true, true, true, true, true, false, false]) rfl (guard_none rfl) rfl rfl (by kernel_rfl) (does_callk rfl callok66 rfl (ih (IntKind.i64.wrap (Int.tdiv x0 (10 : Int))) h515)) ?_
          rintro _ w524 ⟨rfl, hn⟩
          replace HM : Mem w [] w524 [own kU8 5 v516 ([IntKind.u8.wrap (wrap64 (48 + (Int.tmod x0 (10 : Int))))] : List Int)] := HM.call hn
          refine ⟨Mem.suf (M := [own kU8 5 v516 ([IntKind.u8.wrap (wrap64 (48 + (Int.tmod x0 (10 : Int))))] : List Int)]) HM, ?_⟩
          have hS := Mem.suf (M := [own kU8 5 v516 ([IntKind.u8.wrap (wrap64 (48 + (Int.tmod x0 (10 : Int))))] : List Int)]) HM
          refine drw_take (i := 9) (l' := #[true, true, true, true, true, true, true, true, true, true, false]) rfl (guard_none rfl) rfl rfl (by kernel_rfl) (fun w_ hS_ => (ex_sadd rfl rfl rfl (leB_le e519))) hS ?_
          refine drw_take (i := 10) (l' := #[true, true, true, true, true, true, true, true, true, true, true]) rfl (guard_none rfl) rfl rfl (by kernel_rfl) (fun w_ hS_ => (ex_assign rfl rfl)) hS ?_
          refine drw_done (by kernel_rfl) ?_
          replace HM := (HM.front 0 rfl rfl).drop
          exact at_meet [(2, .string (t514 ++ (strOfNums ([IntKind.u8.wrap (wrap64 (48 + (Int.tmod x0 (10 : Int))))] : List Int))))] ⟨rfl, HM⟩ (Sub.cons rfl Sub.nil)
    · rintro _ w525 ⟨rfl, HM⟩
      refine at_then ?_
      refine run_ret ?_
      have hR := Option.some.inj H
      subst hR
      exact at_ret1 rfl rfl ⟨_, rfl, rfl, HM⟩
theorem spec_l2Digits.calls {k : Nat} {x0 : Int}  {w : World}  {r : ByteArray} (H : spec_l2Digits.f k x0 = some r) :
    Calls Tryd.prog 66 ([.int .i64 x0] : List Value).toArray w (fun e w_ => ∃ v, e = .returned v ∧ v = (.string r) ∧ Mem w [] w_ []) := spec_l2Digits.calls_all k x0  H

def spec_l7Text.l0 (x0 : Block) : Nat → ByteArray → Int → Option ByteArray
  | 0, _, _ => none
  | k + 1, a653, a654 => (bif (decide (a654 < (x0.fTxs.length : Int))) then ((bif (a654 == 0) then some (⟨#[32]⟩ : ByteArray) else some (⟨#[43]⟩ : ByteArray)).bind (fun a672 => (chk (leB (a653.size + a672.size) 9223372036854775807) (chk (idxOk a654 x0.fTxs.length) ((spec_l2Digits.f k (gt x0.fTxs a654)).bind fun t680 => (chk (leB ((a653 ++ a672).size + t680.size) 9223372036854775807) (spec_l7Text.l0 x0 k ((a653 ++ a672) ++ t680) (wrap64 (a654 + 1))))))))) else some a653)
theorem spec_l7Text.l0_z (x0 : Block) (a653 : ByteArray) (a654 : Int) : spec_l7Text.l0 x0 0 a653 a654 = none := rfl
theorem spec_l7Text.l0_s (x0 : Block) (k : Nat) (a653 : ByteArray) (a654 : Int) : spec_l7Text.l0 x0 (k + 1) a653 a654 = (bif (decide (a654 < (x0.fTxs.length : Int))) then ((bif (a654 == 0) then some (⟨#[32]⟩ : ByteArray) else some (⟨#[43]⟩ : ByteArray)).bind (fun a672 => (chk (leB (a653.size + a672.size) 9223372036854775807) (chk (idxOk a654 x0.fTxs.length) ((spec_l2Digits.f k (gt x0.fTxs a654)).bind fun t680 => (chk (leB ((a653 ++ a672).size + t680.size) 9223372036854775807) (spec_l7Text.l0 x0 k ((a653 ++ a672) ++ t680) (wrap64 (a654 + 1))))))))) else some a653) := rfl
def spec_l7Text.f (k : Nat) (x0 : Block) : Option ByteArray := ((spec_l2Digits.f k x0.fPrev).bind fun t582 => (chk (leB ((⟨#[98, 108, 111, 99, 107, 32]⟩ : ByteArray).size + t582.size) 9223372036854775807) (chk (leB (((⟨#[98, 108, 111, 99, 107, 32]⟩ : ByteArray) ++ t582).size + (⟨#[32]⟩ : ByteArray).size) 9223372036854775807) ((spec_l2Digits.f k x0.fHeight).bind fun t586 => (chk (leB ((((⟨#[98, 108, 111, 99, 107, 32]⟩ : ByteArray) ++ t582) ++ (⟨#[32]⟩ : ByteArray)).size + t586.size) 9223372036854775807) (chk (leB (((((⟨#[98, 108, 111, 99, 107, 32]⟩ : ByteArray) ++ t582) ++ (⟨#[32]⟩ : ByteArray)) ++ t586).size + (⟨#[32]⟩ : ByteArray).size) 9223372036854775807) ((spec_l2Digits.f k x0.fMiner).bind fun t590 => (chk (leB ((((((⟨#[98, 108, 111, 99, 107, 32]⟩ : ByteArray) ++ t582) ++ (⟨#[32]⟩ : ByteArray)) ++ t586) ++ (⟨#[32]⟩ : ByteArray)).size + t590.size) 9223372036854775807) (bif ((x0.fTxs.length : Int) == 0) then (chk (leB (((((((⟨#[98, 108, 111, 99, 107, 32]⟩ : ByteArray) ++ t582) ++ (⟨#[32]⟩ : ByteArray)) ++ t586) ++ (⟨#[32]⟩ : ByteArray)) ++ t590).size + (⟨#[32, 45]⟩ : ByteArray).size) 9223372036854775807) (some (((((((⟨#[98, 108, 111, 99, 107, 32]⟩ : ByteArray) ++ t582) ++ (⟨#[32]⟩ : ByteArray)) ++ t586) ++ (⟨#[32]⟩ : ByteArray)) ++ t590) ++ (⟨#[32, 45]⟩ : ByteArray)))) else ((spec_l7Text.l0 x0 k ((((((⟨#[98, 108, 111, 99, 107, 32]⟩ : ByteArray) ++ t582) ++ (⟨#[32]⟩ : ByteArray)) ++ t586) ++ (⟨#[32]⟩ : ByteArray)) ++ t590) 0).bind (fun a638 => some a638)))))))))))
theorem spec_l7Text.calls {k : Nat} {x0 : Block} {b0 f0 : Nat} {p0_0 : Value} {w : World} (hc0 : CellsAt w b0 f0 [.int .i64 x0.fPrev, .int .i64 x0.fHeight, .int .i64 x0.fMiner, p0_0]) (hp0_0 : RdS kInt w p0_0 x0.fTxs) {r : ByteArray} (H : spec_l7Text.f k x0 = some r) :
    Calls Tryd.prog 46 ([.pointer (some ⟨b0, f0, none⟩)] : List Value).toArray w (fun e w_ => ∃ v, e = .returned v ∧ v = (.string r) ∧ Mem w [] w_ []) := by
  have HM := Mem.start w
  refine calls_run (N := 58) Tryd.func46 rfl rfl rfl rfl ?_
  unfold spec_l7Text.f at H
  refine run_seq ?_
  refine run_region rfl ?_
  refine ops_ex rfl (guard_none rfl) rfl rfl (ex_assign rfl rfl) ?_
  refine ops_nil ?_
  refine at_then ?_
  refine run_seq ?_
  obtain ⟨t582, h583, H⟩ := bind_some H
  obtain ⟨e584, H⟩ := chk_some H
  obtain ⟨e585, H⟩ := chk_some H
  obtain ⟨t586, h587, H⟩ := bind_some H
  obtain ⟨e588, H⟩ := chk_some H
  obtain ⟨e589, H⟩ := chk_some H
  obtain ⟨t590, h591, H⟩ := bind_some H
  obtain ⟨e592, H⟩ := chk_some H
  refine run_drawf (fun w_ => Mem w [] w_ []) [(0, true), (1, true), (2, true), (3, true), (7, true), (8, true), (9, true), (10, true), (14, true), (15, true), (16, true), (17, true), (4, false), (5, true), (6, true), (11, false), (12, true), (13, true), (18, false), (19, true), (20, true)] mixed rfl rfl (by kernel_rfl) ?_
  replace HM := HM.grow (fr_drew _)
  have hS := Mem.suf (M := []) HM
  refine drwp_take rfl (guard_none rfl) rfl rfl (fun w_ hS_ => (ex_move rfl rfl)) hS ?_
  refine drwp_take rfl (guard_none rfl) rfl rfl (fun w_ hS_ => (ex_nilCheck rfl rfl)) hS ?_
  refine drwp_take rfl (guard_none rfl) rfl rfl (fun w_ hS_ => (ex_fieldAddr (off' := f0) rfl rfl Tryd.underlying51 rfl tsz2 rfl)) hS ?_
  refine drwp_take rfl (guard_none rfl) rfl rfl (fun w_ hS_ => (ex_load1 rfl rfl Tryd.underlying2 rfl ((hS_.at_ hc0) 0 _ rfl))) hS ?_
  refine drwp_take rfl (guard_none rfl) rfl rfl (fun w_ hS_ => (ex_move rfl rfl)) hS ?_
  refine drwp_take rfl (guard_none rfl) rfl rfl (fun w_ hS_ => (ex_nilCheck rfl rfl)) hS ?_
  refine drwp_take rfl (guard_none rfl) rfl rfl (fun w_ hS_ => (ex_fieldAddr (off' := f0 + 1) rfl rfl Tryd.underlying51 rfl tsz2 rfl)) hS ?_
  refine drwp_take rfl (guard_none rfl) rfl rfl (fun w_ hS_ => (ex_load1 rfl rfl Tryd.underlying2 rfl ((hS_.at_ hc0) 1 _ rfl))) hS ?_
  refine drwp_take rfl (guard_none rfl) rfl rfl (fun w_ hS_ => (ex_move rfl rfl)) hS ?_
  refine drwp_take rfl (guard_none rfl) rfl rfl (fun w_ hS_ => (ex_nilCheck rfl rfl)) hS ?_
  refine drwp_take rfl (guard_none rfl) rfl rfl (fun w_ hS_ => (ex_fieldAddr (off' := f0 + 2) rfl rfl Tryd.underlying51 rfl tsz2 rfl)) hS ?_
  refine drwp_take rfl (guard_none rfl) rfl rfl (fun w_ hS_ => (ex_load1 rfl rfl Tryd.underlying2 rfl ((hS_.at_ hc0) 2 _ rfl))) hS ?_
  refine drwp_one rfl (guard_none rfl) rfl rfl (does_callk rfl callok66 rfl (spec_l2Digits.calls (x0 := x0.fPrev) h583)) ?_
  rintro _ w593 ⟨rfl, hn⟩
  replace HM : Mem w [] w593 [] := HM.call hn
  refine ⟨Mem.suf (M := []) HM, ?_⟩
  have hS := Mem.suf (M := []) HM
  refine drwp_take rfl (guard_none rfl) rfl rfl (fun w_ hS_ => (ex_sadd rfl rfl rfl (leB_le e584))) hS ?_
  refine drwp_take rfl (guard_none rfl) rfl rfl (fun w_ hS_ => (ex_sadd rfl rfl rfl (leB_le e585))) hS ?_
  refine drwp_one rfl (guard_none rfl) rfl rfl (does_callk rfl callok66 rfl (spec_l2Digits.calls (x0 := x0.fHeight) h587)) ?_
  rintro _ w594 ⟨rfl, hn⟩
  replace HM : Mem w [] w594 [] := HM.call hn
  refine ⟨Mem.suf (M := []) HM, ?_⟩
  have hS := Mem.suf (M := []) HM
  refine drwp_take rfl (guard_none rfl) rfl rfl (fun w_ hS_ => (ex_sadd rfl rfl rfl (leB_le e588))) hS ?_
  refine drwp_take rfl (guard_none rfl) rfl rfl (fun w_ hS_ => (ex_sadd rfl rfl rfl (leB_le e589))) hS ?_
  refine drwp_one rfl (guard_none rfl) rfl rfl (does_callk rfl callok66 rfl (spec_l2Digits.calls (x0 := x0.fMiner) h591)) ?_
  rintro _ w595 ⟨rfl, hn⟩
  replace HM : Mem w [] w595 [] := HM.call hn
  refine ⟨Mem.suf (M := []) HM, ?_⟩
  have hS := Mem.suf (M := []) HM
  refine drwp_take rfl (guard_none rfl) rfl rfl (fun w_ hS_ => (ex_sadd rfl rfl rfl (leB_le e592))) hS ?_
  refine drwp_take rfl (guard_none rfl) rfl rfl (fun w_ hS_ => (ex_assign rfl rfl)) hS ?_
  refine drwp_done ?_
  refine at_then ?_
  refine run_seq ?_
  refine run_seq ?_
  refine run_region rfl ?_
  refine ops_ex rfl (guard_none rfl) rfl rfl (ex_move rfl rfl) ?_
  refine ops_ex rfl (guard_none rfl) rfl rfl (ex_nilCheck rfl rfl) ?_
  refine ops_ex rfl (guard_none rfl) rfl rfl (ex_fieldAddr (off' := f0 + 3) rfl rfl Tryd.underlying51 rfl tsz38 rfl) ?_
  refine ops_ex rfl (guard_none rfl) rfl rfl (ex_load1 rfl rfl Tryd.underlying38 rfl ((HM.at_ hc0) 3 _ rfl)) ?_
  refine ops_ex rfl (guard_none rfl) rfl rfl (ex_len (d := kInt) (xs := x0.fTxs) rfl rfl Tryd.underlying38 hp0_0) ?_
  refine ops_ex rfl (guard_none rfl) rfl rfl (ex_eql rfl rfl rfl) ?_
  refine ops_nil ?_
  refine at_then ?_
  refine run_cond (b := ((x0.fTxs.length : Int) == 0)) rfl (fun hb598 => ?_) (fun hb598 => ?_)
  · replace H := cond_t hb598 H
    refine run_seq ?_
    obtain ⟨e599, H⟩ := chk_some H
    refine run_region rfl ?_
    refine ops_ex rfl (guard_none rfl) rfl rfl (ex_move rfl rfl) ?_
    refine ops_ex rfl (guard_none rfl) rfl rfl (ex_sadd rfl rfl rfl (leB_le e599)) ?_
    refine ops_ex rfl (guard_none rfl) rfl rfl (ex_assign rfl rfl) ?_
    refine ops_nil ?_
    refine at_then ?_
    refine run_ret ?_
    refine at_then_ret ?_
    have hR := Option.some.inj H
    subst hR
    exact at_ret1 rfl rfl ⟨_, rfl, rfl, HM⟩
  · replace H := cond_f hb598 H
    refine run_skip ?_
    refine at_then ?_
    obtain ⟨o639, ho640, H⟩ := bind_some H
    refine run_mid (fun ρ_ w_ => ∃ a638 : ByteArray, a638 = o639 ∧ ρ_ = [(3, .string a638)] ∧ Mem w [] w_ []) ?_ ?_
    · clear H
      refine run_seq ?_
      refine run_region rfl ?_
      refine ops_ex rfl (guard_none rfl) rfl rfl (ex_assign rfl rfl) ?_
      refine ops_nil ?_
      refine at_then ?_
      refine run_block ?_
      refine run_loop (fun k_ ρ_ w_ => ∃ a653 : ByteArray, ∃ a654 : Int, spec_l7Text.l0 x0 k_ a653 a654 = some o639 ∧ ρ_ = [(0, .pointer (some ⟨b0, f0, none⟩)), (3, .string a653), (4, .int .i64 a654)] ∧ Mem w [] w_ []) k (ρ1 := [(0, .pointer (some ⟨b0, f0, none⟩)), (3, .string ((((((⟨#[98, 108, 111, 99, 107, 32]⟩ : ByteArray) ++ t582) ++ (⟨#[32]⟩ : ByteArray)) ++ t586) ++ (⟨#[32]⟩ : ByteArray)) ++ t590)), (4, .int .i64 0)]) ⟨_, _, ho640, rfl, HM⟩ (Sub.cons rfl (Sub.cons rfl (Sub.cons rfl Sub.nil))) ?_
      clear HM ho640
      rintro k667 _ w668 ⟨a653, a654, ho640, rfl, HM⟩
      obtain _ | k667 := k667
      · exact nomatch ((spec_l7Text.l0_z x0 a653 a654).symm.trans ho640)
      replace ho640 := (spec_l7Text.l0_s x0 k667 a653 a654).symm.trans ho640
      refine run_seq ?_
      refine run_seq ?_
      refine run_region rfl ?_
      refine ops_ex rfl (guard_none rfl) rfl rfl (ex_move rfl rfl) ?_
      refine ops_ex rfl (guard_none rfl) rfl rfl (ex_move rfl rfl) ?_
      refine ops_ex rfl (guard_none rfl) rfl rfl (ex_nilCheck rfl rfl) ?_
      refine ops_ex rfl (guard_none rfl) rfl rfl (ex_fieldAddr (off' := f0 + 3) rfl rfl Tryd.underlying51 rfl tsz38 rfl) ?_
      refine ops_ex rfl (guard_none rfl) rfl rfl (ex_load1 rfl rfl Tryd.underlying38 rfl ((HM.at_ hc0) 3 _ rfl)) ?_
      refine ops_ex rfl (guard_none rfl) rfl rfl (ex_len (d := kInt) (xs := x0.fTxs) rfl rfl Tryd.underlying38 hp0_0) ?_
      refine ops_ex rfl (guard_none rfl) rfl rfl (ex_lss rfl rfl rfl) ?_
      refine ops_nil ?_
      refine at_then ?_
      refine run_cond (b := (decide (a654 < (x0.fTxs.length : Int)))) rfl (fun hb669 => ?_) (fun hb669 => ?_)
      · replace ho640 := cond_t hb669 ho640
        refine run_skip ?_
        refine at_then ?_
        refine run_seq ?_
        refine run_block ?_
        refine run_seq ?_
        refine run_region rfl ?_
        refine ops_ex rfl (guard_none rfl) rfl rfl (ex_assign rfl rfl) ?_
        refine ops_nil ?_
        refine at_then ?_
        obtain ⟨o673, ho674, ho640⟩ := bind_some ho640
        refine run_mid (fun ρ_ w_ => ∃ a672 : ByteArray, a672 = o673 ∧ ρ_ = [(0, .pointer (some ⟨b0, f0, none⟩)), (3, .string a653), (4, .int .i64 a654), (5, .string a672)] ∧ Mem w [] w_ []) ?_ ?_
        · clear ho640
          refine run_seq ?_
          refine run_region rfl ?_
          refine ops_ex rfl (guard_none rfl) rfl rfl (ex_move rfl rfl) ?_
          refine ops_ex rfl (guard_none rfl) rfl rfl (ex_eql rfl rfl rfl) ?_
          refine ops_nil ?_
          refine at_then ?_
          refine run_cond (b := (a654 == 0)) rfl (fun hb675 => ?_) (fun hb675 => ?_)
          · replace ho674 := cond_t hb675 ho674
            refine run_region rfl ?_
            refine ops_ex rfl (guard_none rfl) rfl rfl (ex_assign rfl rfl) ?_
            refine ops_nil ?_
            exact at_mid (ρ' := [(0, .pointer (some ⟨b0, f0, none⟩)), (3, .string a653), (4, .int .i64 a654), (5, .string (⟨#[32]⟩ : ByteArray))]) ⟨_, (Option.some.inj ho674), rfl, HM⟩ (Sub.cons rfl (Sub.cons rfl (Sub.cons rfl (Sub.cons rfl Sub.nil))))
          · replace ho674 := cond_f hb675 ho674
            refine run_skip ?_
            exact at_mid (ρ' := [(0, .pointer (some ⟨b0, f0, none⟩)), (3, .string a653), (4, .int .i64 a654), (5, .string (⟨#[43]⟩ : ByteArray))]) ⟨_, (Option.some.inj ho674), rfl, HM⟩ (Sub.cons rfl (Sub.cons rfl (Sub.cons rfl (Sub.cons rfl Sub.nil))))
        · rintro _ w676 ⟨a672, rfl, rfl, HM⟩
          obtain ⟨e677, ho640⟩ := chk_some ho640
          obtain ⟨e678, ho640⟩ := chk_some ho640
          obtain ⟨t680, h681, ho640⟩ := bind_some ho640
          obtain ⟨e682, ho640⟩ := chk_some ho640
          refine run_region rfl ?_
          refine ops_ex rfl (guard_none rfl) rfl rfl (ex_move rfl rfl) ?_
          refine ops_ex rfl (guard_none rfl) rfl rfl (ex_move rfl rfl) ?_
          refine ops_ex rfl (guard_none rfl) rfl rfl (ex_sadd rfl rfl rfl (leB_le e677)) ?_
          refine ops_ex rfl (guard_none rfl) rfl rfl (ex_move rfl rfl) ?_
          refine ops_ex rfl (guard_none rfl) rfl rfl (ex_nilCheck rfl rfl) ?_
          refine ops_ex rfl (guard_none rfl) rfl rfl (ex_fieldAddr (off' := f0 + 3) rfl rfl Tryd.underlying51 rfl tsz38 rfl) ?_
          refine ops_ex rfl (guard_none rfl) rfl rfl (ex_load1 rfl rfl Tryd.underlying38 rfl ((HM.at_ hc0) 3 _ rfl)) ?_
          refine ops_ex rfl (guard_none rfl) rfl rfl (ex_move rfl rfl) ?_
          have hc679 : CellsAt _ (sb p0_0) (so p0_0 + (a654).toNat * 1) [(.int .i64 (gt x0.fTxs a654))] := rd_plain hp0_0 e678
          refine ops_ex rfl (guard_none rfl) rfl rfl (ex_indexAddr (d := kInt) rfl rfl rfl Tryd.underlying38 tsz2 hp0_0 (idx_lo e678) (idx_hi e678)) ?_
          refine ops_ex rfl (guard_none rfl) rfl rfl (ex_load1 rfl rfl Tryd.underlying2 rfl ((HM.at_ hc679) 0 _ rfl)) ?_
          refine ops_does rfl (guard_none rfl) rfl rfl (does_callk rfl callok66 rfl (spec_l2Digits.calls (x0 := (gt x0.fTxs a654)) h681)) ?_
          rintro _ w683 ⟨rfl, hn⟩
          replace HM : Mem w [] w683 [] := HM.call hn
          refine ops_ex rfl (guard_none rfl) rfl rfl (ex_sadd rfl rfl rfl (leB_le e682)) ?_
          refine ops_ex rfl (guard_none rfl) rfl rfl (ex_assign rfl rfl) ?_
          refine ops_nil ?_
          refine at_block ?_
          refine at_then ?_
          refine run_region rfl ?_
          refine ops_ex rfl (guard_none rfl) rfl rfl (ex_move rfl rfl) ?_
          refine ops_ex rfl (guard_none rfl) rfl rfl (ex_add rfl rfl rfl) ?_
          refine ops_ex rfl (guard_none rfl) rfl rfl (ex_assign rfl rfl) ?_
          refine ops_nil ?_
          exact at_again k667 (ρ1 := [(0, .pointer (some ⟨b0, f0, none⟩)), (3, .string ((a653 ++ a672) ++ t680)), (4, .int .i64 (wrap64 (a654 + 1)))]) (Nat.lt_succ_self _) ⟨_, _, ho640, rfl, HM⟩ (Sub.cons rfl (Sub.cons rfl (Sub.cons rfl Sub.nil)))
      · replace ho640 := cond_f hb669 ho640
        refine run_exit ?_
        refine at_then_exit ?_
        refine at_then_exit ?_
        refine at_block_exit ?_
        exact at_mid (ρ' := [(3, .string a653)]) ⟨_, (Option.some.inj ho640), rfl, HM⟩ (Sub.cons rfl Sub.nil)
    · rintro _ w684 ⟨a638, rfl, rfl, HM⟩
      refine run_seq ?_
      refine run_region rfl ?_
      refine ops_ex rfl (guard_none rfl) rfl rfl (ex_move rfl rfl) ?_
      refine ops_ex rfl (guard_none rfl) rfl rfl (ex_assign rfl rfl) ?_
      refine ops_nil ?_
      refine at_then ?_
      refine run_ret ?_
      have hR := Option.some.inj H
      subst hR
      exact at_ret1 rfl rfl ⟨_, rfl, rfl, HM⟩
end Go.Proofs.YtcpacdbdehphkaaDoor.Zk
