/- What functions of the program compute, each as a plain function, and that they do. Conditions: as each theorem states them. -/
import Derived.Test.YtbbcabpnkdilgaaFnMembersZkTy
namespace Go.Proofs.Ytbbcabpnkdilgaa.Zk
open Go Go.RowKit Go.IntWalk Go.Proofs
set_option linter.unusedVariables false
set_option linter.unusedSimpArgs false
set_option maxRecDepth 100000
set_option maxHeartbeats 4000000
def laws_lwBig.f (k : Nat) (x0 : List Int) : Option Bool := some (decide (1048576 < (x0.length : Int)))
theorem laws_lwBig.calls {k : Nat} {x0 : List Int} {p0 : Value} {w : World} (hp0 : RdS kU8 w p0 x0) {r : Bool} (H : laws_lwBig.f k x0 = some r) :
    Calls Try.prog 7 ([p0] : List Value).toArray w (fun e w_ => ∃ v, e = .returned v ∧ v = (.bool r) ∧ Mem w [] w_ []) := by
  have HM := Mem.start w
  refine calls_run (N := 6) Try.func7 rfl rfl rfl rfl ?_
  unfold laws_lwBig.f at H
  refine run_seq ?_
  refine run_region rfl ?_
  refine ox rfl rfl rfl rfl (ex_assign rfl rfl) ?_
  refine ops_nil (at_then (run_seq ?_))
  refine run_region rfl ?_
  refine ox rfl rfl rfl rfl (ex_move rfl rfl) ?_
  refine ox rfl rfl rfl rfl (ex_len (d := kU8) (xs := x0) rfl rfl Try.underlying22 hp0) ?_
  refine ox rfl rfl rfl rfl (ex_gtr rfl rfl rfl) ?_
  refine ox rfl rfl rfl rfl (ex_assign rfl rfl) ?_
  refine ops_nil (at_then ?_)
  refine run_ret ?_
  have hR := Option.some.inj H
  subst hR
  exact at_ret1 rfl rfl ⟨_, rfl, rfl, HM⟩

def spec_l1Source.f (k : Nat) (x0 : List Int) : Option Int := some 0
theorem spec_l1Source.calls {k : Nat} {x0 : List Int} {p0 : Value} {w : World} (hp0 : RdS kU8 w p0 x0) {r : Int} (H : spec_l1Source.f k x0 = some r) :
    Calls Try.prog 47 ([p0] : List Value).toArray w (fun e w_ => ∃ v, e = .returned v ∧ ∃ ub : Nat, v = (.pointer (some ⟨ub, 0, none⟩)) ∧ Mem w [] w_ [box ub 150 [p0, .int .i64 r]]) := by
  have HM := Mem.start w
  refine calls_run (N := 6) Try.func47 rfl rfl rfl rfl ?_
  unfold spec_l1Source.f at H
  refine run_seq ?_
  refine run_region rfl ?_
  refine ox rfl rfl rfl rfl (ex_assign rfl rfl) ?_
  refine ops_nil (at_then (run_seq ?_))
  refine run_region rfl ?_
  refine ox rfl rfl rfl rfl (ex_move rfl rfl) ?_
  refine ox rfl rfl rfl rfl (ex_build1 (fun p0 => [(0, p0)]) (fun p0 => #[p0, .int .i64 0]) rfl rfl (fun _ _ _ => by kernel_rfl) hp0.isSl) ?_
  refine od rfl rfl rfl rfl (does_box (cs := [p0, .int .i64 0]) rfl rfl rfl HM) ?_
  rintro _ w16 ⟨b13, rfl, HM⟩
  refine ox rfl rfl rfl rfl (ex_assign rfl rfl) ?_
  refine ops_nil (at_then ?_)
  refine run_ret ?_
  have hR := Option.some.inj H
  subst hR
  exact at_ret1 rfl rfl ⟨_, rfl, _, rfl, HM⟩

def spec_l1Next.f (k : Nat) (x0 : l1Src) (x1 : Int) : Option (Int × Int) := (bif (decide (x1 < 1)) then some (0, wrap64 (x0.fAt + 1)) else (bif ((x0.fCode.length : Int) == 0) then (chk (x1 != 0) (some (Int.tmod (wrap64 ((wrap64 ((wrap64 (x0.fAt + 1)) - 1)) * 7)) x1, wrap64 (x0.fAt + 1)))) else (chk ((x0.fCode.length : Int) != 0) (chk (idxOk (Int.tmod (wrap64 ((wrap64 (x0.fAt + 1)) - 1)) (x0.fCode.length : Int)) x0.fCode.length) (chk ((x0.fCode.length : Int) != 0) (bif (decide (200 < x1)) then (chk ((x0.fCode.length : Int) != 0) (chk (idxOk (Int.tmod (wrap64 ((wrap64 ((wrap64 (x0.fAt + 1)) - 1)) + 1)) (x0.fCode.length : Int)) x0.fCode.length) (chk (x1 != 0) (some (Int.tmod (wrap64 ((wrap64 ((wrap64 ((wrap64 ((wrap64 (gt x0.fCode (Int.tmod (wrap64 ((wrap64 (x0.fAt + 1)) - 1)) (x0.fCode.length : Int)))) + (wrap64 ((IntKind.i64.wrap (Int.tdiv (wrap64 ((wrap64 (x0.fAt + 1)) - 1)) (x0.fCode.length : Int))) * 37)))) * 251)) + (wrap64 ((wrap64 (gt x0.fCode (Int.tmod (wrap64 ((wrap64 ((wrap64 (x0.fAt + 1)) - 1)) + 1)) (x0.fCode.length : Int)))) * 13)))) + (wrap64 ((wrap64 (x0.fAt + 1)) - 1)))) x1, wrap64 (x0.fAt + 1)))))) else (chk (x1 != 0) (some (Int.tmod (wrap64 ((wrap64 (gt x0.fCode (Int.tmod (wrap64 ((wrap64 (x0.fAt + 1)) - 1)) (x0.fCode.length : Int)))) + (wrap64 ((IntKind.i64.wrap (Int.tdiv (wrap64 ((wrap64 (x0.fAt + 1)) - 1)) (x0.fCode.length : Int))) * 37)))) x1, wrap64 (x0.fAt + 1))))))))))
theorem spec_l1Next.calls {k : Nat} {x0 : l1Src} {x1 : Int} {b0 : Nat} {p0_0 : Value} {w wo : World} {X : List Nat} (hwo : Olds wo w X) (hX : Hold w [box b0 150 [p0_0, .int .i64 x0.fAt]] X) (hXn : X.Nodup) (hXl : ∀ b ∈ X, b < w.heap.size) (hp0_0 : RdS kU8 wo p0_0 x0.fCode) {r : Int × Int} (H : spec_l1Next.f k x0 x1 = some r) :
    Calls Try.prog 52 ([.pointer (some ⟨b0, 0, none⟩), .int .i64 x1] : List Value).toArray w (fun e w_ => ∃ v, e = .returned v ∧ v = (.int .i64 r.1) ∧ Mem w X w_ [box b0 150 [p0_0, .int .i64 r.2]]) := by
  have HM := Mem.startX hX hXn hXl
  refine calls_run (N := 71) Try.func52 rfl rfl rfl rfl ?_
  unfold spec_l1Next.f at H
  refine run_seq ?_
  refine run_region rfl ?_
  refine ox rfl rfl rfl rfl (ex_assign rfl rfl) ?_
  refine ops_nil (at_then (run_seq ?_))
  refine run_region rfl ?_
  refine ox rfl rfl rfl rfl (ex_move rfl rfl) ?_
  refine ox rfl rfl rfl rfl (ex_move rfl rfl) ?_
  refine ox rfl rfl rfl rfl (ex_nilCheck rfl rfl) ?_
  refine ox rfl rfl rfl rfl (ex_fieldAddr (off' := 1) rfl rfl Try.underlying150 rfl tsz2 rfl) ?_
  refine ox rfl rfl rfl rfl (ex_load1 rfl rfl Try.underlying2 rfl ((HM.box_at 0 rfl) 1 _ rfl)) ?_
  refine ox rfl rfl rfl rfl (ex_add rfl rfl rfl) ?_
  refine ox rfl rfl rfl rfl (ex_nilCheck rfl rfl) ?_
  refine ox rfl rfl rfl rfl (ex_fieldAddr (off' := 1) rfl rfl Try.underlying150 rfl tsz2 rfl) ?_
  refine odS rfl rfl rfl (does_store (vs := [.int .i64 (wrap64 (x0.fAt + 1))]) (cs' := [p0_0, .int .i64 (wrap64 (x0.fAt + 1))]) rfl rfl rfl rfl tsz2 (Ones.int Ones.nil) rfl rfl HM) ?_
  rintro w41 HM
  refine ops_nil (at_then (run_seq ?_))
  refine run_seq ?_
  refine run_region rfl ?_
  refine ox rfl rfl rfl rfl (ex_move rfl rfl) ?_
  refine ox rfl rfl rfl rfl (ex_lss rfl rfl rfl) ?_
  refine ops_nil (at_then ?_)
  refine run_cond (b := (decide (x1 < 1))) rfl (fun hb43 => ?_) (fun hb43 => ?_)
  · replace H := cond_t hb43 H
    refine run_seq ?_
    refine run_region rfl ?_
    refine ox rfl rfl rfl rfl (ex_assign rfl rfl) ?_
    refine ops_nil (at_then ?_)
    refine run_ret ?_
    refine at_then_ret ?_
    have hR := Option.some.inj H
    subst hR
    exact at_ret1 rfl rfl ⟨_, rfl, rfl, HM⟩
  · replace H := cond_f hb43 H
    refine run_skip ?_
    refine at_then ?_
    refine run_seq ?_
    refine run_region rfl ?_
    refine ox rfl rfl rfl rfl (ex_move rfl rfl) ?_
    refine ox rfl rfl rfl rfl (ex_nilCheck rfl rfl) ?_
    refine ox rfl rfl rfl rfl (ex_fieldAddr (off' := 1) rfl rfl Try.underlying150 rfl tsz2 rfl) ?_
    refine ox rfl rfl rfl rfl (ex_load1 rfl rfl Try.underlying2 rfl ((HM.box_at 0 rfl) 1 _ rfl)) ?_
    refine ox rfl rfl rfl rfl (ex_sub rfl rfl rfl) ?_
    refine ox rfl rfl rfl rfl (ex_assign rfl rfl) ?_
    refine ops_nil (at_then (run_seq ?_))
    refine run_region rfl ?_
    refine ox rfl rfl rfl rfl (ex_move rfl rfl) ?_
    refine ox rfl rfl rfl rfl (ex_nilCheck rfl rfl) ?_
    refine ox rfl rfl rfl rfl (ex_fieldAddr (off' := 0) rfl rfl Try.underlying150 rfl tsz22 rfl) ?_
    refine ox rfl rfl rfl rfl (ex_load1 rfl rfl Try.underlying22 rfl ((HM.box_at 0 rfl) 0 _ rfl)) ?_
    refine ox rfl rfl rfl rfl (ex_len (d := kU8) (xs := x0.fCode) rfl rfl Try.underlying22 hp0_0) ?_
    refine ox rfl rfl rfl rfl (ex_assign rfl rfl) ?_
    refine ops_nil (at_then (run_seq ?_))
    refine run_seq ?_
    refine run_region rfl ?_
    refine ox rfl rfl rfl rfl (ex_move rfl rfl) ?_
    refine ox rfl rfl rfl rfl (ex_eql rfl rfl rfl) ?_
    refine ops_nil (at_then ?_)
    refine run_cond (b := ((x0.fCode.length : Int) == 0)) rfl (fun hb46 => ?_) (fun hb46 => ?_)
    · replace H := cond_t hb46 H
      refine run_seq ?_
      obtain ⟨e47, H⟩ := chk_some H
      refine run_region rfl ?_
      refine ox rfl rfl rfl rfl (ex_move rfl rfl) ?_
      refine ox rfl rfl rfl rfl (ex_mul rfl rfl rfl) ?_
      refine ox rfl rfl rfl rfl (ex_move rfl rfl) ?_
      refine ox rfl rfl rfl rfl (ex_remk rfl rfl rfl e47) ?_
      refine ox rfl rfl rfl rfl (ex_assign rfl rfl) ?_
      refine ops_nil (at_then ?_)
      refine run_ret ?_
      refine at_then_ret ?_
      have hR := Option.some.inj H
      subst hR
      exact at_ret1 rfl rfl ⟨_, rfl, rfl, HM⟩
    · replace H := cond_f hb46 H
      refine run_skip ?_
      refine at_then ?_
      refine run_seq ?_
      obtain ⟨e48, H⟩ := chk_some H
      obtain ⟨e49, H⟩ := chk_some H
      obtain ⟨e51, H⟩ := chk_some H
      refine run_drawf (fun w_ => Mem w X w_ [box b0 150 [p0_0, .int .i64 (wrap64 (x0.fAt + 1))]]) [(0, true), (1, true), (2, true), (3, true), (4, true), (5, true), (6, true), (7, true), (8, true), (9, true), (10, true), (11, true), (12, true), (13, true), (14, true), (15, true)] mixed rfl rfl (by kernel_rfl) ?_
      replace HM := HM.grow (fr_drew _)
      have hS := Mem.suf (M := []) HM
      refine dp rfl rfl rfl rfl (ex_move rfl rfl) hS ?_
      refine dp rfl rfl rfl rfl (ex_nilCheck rfl rfl) hS ?_
      refine dp rfl rfl rfl rfl (ex_fieldAddr (off' := 0) rfl rfl Try.underlying150 rfl tsz22 rfl) hS ?_
      refine drwp_take rfl (guard_none rfl) rfl rfl (fun w_ hS_ => (ex_load1 rfl rfl Try.underlying22 rfl ((hS_.box_at 0 rfl) 0 _ rfl))) hS ?_
      refine dp rfl rfl rfl rfl (ex_move rfl rfl) hS ?_
      refine dp rfl rfl rfl rfl (ex_move rfl rfl) hS ?_
      refine dp rfl rfl rfl rfl (ex_remk rfl rfl rfl e48) hS ?_
      have hc50 : CellsAt _ (sb p0_0) (so p0_0 + (Int.tmod (wrap64 ((wrap64 (x0.fAt + 1)) - 1)) (x0.fCode.length : Int)).toNat * 1) [(.int .u8 (gt x0.fCode (Int.tmod (wrap64 ((wrap64 (x0.fAt + 1)) - 1)) (x0.fCode.length : Int))))] := rd_plain hp0_0 e49
      refine dp rfl rfl rfl rfl (ex_indexAddr (d := kU8) rfl rfl rfl Try.underlying22 tsz5 hp0_0 (idx_lo e49) (idx_hi e49)) hS ?_
      refine drwp_take rfl (guard_none rfl) rfl rfl (fun w_ hS_ => (ex_load1 rfl rfl Try.underlying5 rfl ((hS_.ato hwo hc50) 0 _ rfl))) hS ?_
      refine dp rfl rfl rfl rfl (ex_conv64 rfl rfl (by rw [Try.underlying5]; rfl) Try.underlying2) hS ?_
      refine dp rfl rfl rfl rfl (ex_move rfl rfl) hS ?_
      refine dp rfl rfl rfl rfl (ex_move rfl rfl) hS ?_
      refine dp rfl rfl rfl rfl (ex_quok rfl rfl rfl e51) hS ?_
      refine dp rfl rfl rfl rfl (ex_mul rfl rfl rfl) hS ?_
      refine dp rfl rfl rfl rfl (ex_add rfl rfl rfl) hS ?_
      refine dp rfl rfl rfl rfl (ex_assign rfl rfl) hS ?_
      refine drwp_done ?_
      refine at_then ?_
      refine run_seq ?_
      refine run_seq ?_
      refine run_region rfl ?_
      refine ox rfl rfl rfl rfl (ex_move rfl rfl) ?_
      refine ox rfl rfl rfl rfl (ex_gtr rfl rfl rfl) ?_
      refine ops_nil (at_then ?_)
      refine run_cond (b := (decide (200 < x1))) rfl (fun hb52 => ?_) (fun hb52 => ?_)
      · replace H := cond_t hb52 H
        obtain ⟨e53, H⟩ := chk_some H
        obtain ⟨e54, H⟩ := chk_some H
        refine run_drawf (fun w_ => Mem w X w_ [box b0 150 [p0_0, .int .i64 (wrap64 (x0.fAt + 1))]]) [(0, true), (1, true), (2, true), (3, true), (4, true), (5, true), (6, true), (7, true), (8, true), (9, true), (10, true), (11, true), (12, true), (13, true), (14, true), (15, true), (16, true), (17, true)] mixed rfl rfl (by kernel_rfl) ?_
        replace HM := HM.grow (fr_drew _)
        have hS := Mem.suf (M := []) HM
        refine dp rfl rfl rfl rfl (ex_move rfl rfl) hS ?_
        refine dp rfl rfl rfl rfl (ex_mul rfl rfl rfl) hS ?_
        refine dp rfl rfl rfl rfl (ex_move rfl rfl) hS ?_
        refine dp rfl rfl rfl rfl (ex_nilCheck rfl rfl) hS ?_
        refine dp rfl rfl rfl rfl (ex_fieldAddr (off' := 0) rfl rfl Try.underlying150 rfl tsz22 rfl) hS ?_
        refine drwp_take rfl (guard_none rfl) rfl rfl (fun w_ hS_ => (ex_load1 rfl rfl Try.underlying22 rfl ((hS_.box_at 0 rfl) 0 _ rfl))) hS ?_
        refine dp rfl rfl rfl rfl (ex_move rfl rfl) hS ?_
        refine dp rfl rfl rfl rfl (ex_add rfl rfl rfl) hS ?_
        refine dp rfl rfl rfl rfl (ex_move rfl rfl) hS ?_
        refine dp rfl rfl rfl rfl (ex_remk rfl rfl rfl e53) hS ?_
        have hc55 : CellsAt _ (sb p0_0) (so p0_0 + (Int.tmod (wrap64 ((wrap64 ((wrap64 (x0.fAt + 1)) - 1)) + 1)) (x0.fCode.length : Int)).toNat * 1) [(.int .u8 (gt x0.fCode (Int.tmod (wrap64 ((wrap64 ((wrap64 (x0.fAt + 1)) - 1)) + 1)) (x0.fCode.length : Int))))] := rd_plain hp0_0 e54
        refine dp rfl rfl rfl rfl (ex_indexAddr (d := kU8) rfl rfl rfl Try.underlying22 tsz5 hp0_0 (idx_lo e54) (idx_hi e54)) hS ?_
        refine drwp_take rfl (guard_none rfl) rfl rfl (fun w_ hS_ => (ex_load1 rfl rfl Try.underlying5 rfl ((hS_.ato hwo hc55) 0 _ rfl))) hS ?_
        refine dp rfl rfl rfl rfl (ex_conv64 rfl rfl (by rw [Try.underlying5]; rfl) Try.underlying2) hS ?_
        refine dp rfl rfl rfl rfl (ex_mul rfl rfl rfl) hS ?_
        refine dp rfl rfl rfl rfl (ex_add rfl rfl rfl) hS ?_
        refine dp rfl rfl rfl rfl (ex_move rfl rfl) hS ?_
        refine dp rfl rfl rfl rfl (ex_add rfl rfl rfl) hS ?_
        refine dp rfl rfl rfl rfl (ex_assign rfl rfl) hS ?_
        refine drwp_done ?_
        refine at_then ?_
        refine run_seq ?_
        obtain ⟨e56, H⟩ := chk_some H
        refine run_region rfl ?_
        refine ox rfl rfl rfl rfl (ex_move rfl rfl) ?_
        refine ox rfl rfl rfl rfl (ex_move rfl rfl) ?_
        refine ox rfl rfl rfl rfl (ex_remk rfl rfl rfl e56) ?_
        refine ox rfl rfl rfl rfl (ex_assign rfl rfl) ?_
        refine ops_nil (at_then ?_)
        refine run_ret ?_
        have hR := Option.some.inj H
        subst hR
        exact at_ret1 rfl rfl ⟨_, rfl, rfl, HM⟩
      · replace H := cond_f hb52 H
        refine run_skip ?_
        refine at_then ?_
        refine run_seq ?_
        obtain ⟨e57, H⟩ := chk_some H
        refine run_region rfl ?_
        refine ox rfl rfl rfl rfl (ex_move rfl rfl) ?_
        refine ox rfl rfl rfl rfl (ex_move rfl rfl) ?_
        refine ox rfl rfl rfl rfl (ex_remk rfl rfl rfl e57) ?_
        refine ox rfl rfl rfl rfl (ex_assign rfl rfl) ?_
        refine ops_nil (at_then ?_)
        refine run_ret ?_
        have hR := Option.some.inj H
        subst hR
        exact at_ret1 rfl rfl ⟨_, rfl, rfl, HM⟩

def spec_l6At.l0 (x0 : List Member) (x1 : Int) : Nat → Int → Option (Int ⊕ Unit)
  | 0, _ => none
  | k + 1, a127 => (bif (decide (a127 < (x0.length : Int))) then (chk (idxOk a127 x0.length) (bif (((gt x0 a127).fKey) == x1) then some (.inl a127) else spec_l6At.l0 x0 x1 k (wrap64 (a127 + 1)))) else some (.inr ()))
theorem spec_l6At.l0_z (x0 : List Member) (x1 : Int) (a127 : Int) : spec_l6At.l0 x0 x1 0 a127 = none := rfl
theorem spec_l6At.l0_s (x0 : List Member) (x1 : Int) (k : Nat) (a127 : Int) : spec_l6At.l0 x0 x1 (k + 1) a127 = (bif (decide (a127 < (x0.length : Int))) then (chk (idxOk a127 x0.length) (bif (((gt x0 a127).fKey) == x1) then some (.inl a127) else spec_l6At.l0 x0 x1 k (wrap64 (a127 + 1)))) else some (.inr ())) := rfl
def spec_l6At.f (k : Nat) (x0 : List Member) (x1 : Int) : Option Int := ((spec_l6At.l0 x0 x1 k 0).bind fun o121 => thn o121 (fun r => some r) (fun _ => some (-1)))
theorem spec_l6At.calls {k : Nat} {x0 : List Member} {x1 : Int} {p0 : Value} {w : World} (hp0 : RdS kMember w p0 x0) {r : Int} (H : spec_l6At.f k x0 x1 = some r) :
    Calls Try.prog 119 ([p0, .int .i64 x1] : List Value).toArray w (fun e w_ => ∃ v, e = .returned v ∧ v = (.int .i64 r) ∧ Mem w [] w_ []) := by
  have HM := Mem.start w
  refine calls_run (N := 20) Try.func119 rfl rfl rfl rfl ?_
  unfold spec_l6At.f at H
  refine run_seq ?_
  refine run_region rfl ?_
  refine ox rfl rfl rfl rfl (ex_assign rfl rfl) ?_
  refine ops_nil (at_then ?_)
  obtain ⟨o121, ho122, H⟩ := bind_some H
  refine run_mid (fun ρ_ w_ => Sum.inr () = o121 ∧ ρ_ = [] ∧ Mem w [] w_ []) ?_ ?_
  · skip
    refine run_seq ?_
    refine run_region rfl ?_
    refine ox rfl rfl rfl rfl (ex_assign rfl rfl) ?_
    refine ops_nil (at_then ?_)
    refine run_block ?_
    refine run_loop (fun k_ ρ_ w_ => ∃ a127 : Int, spec_l6At.l0 x0 x1 k_ a127 = some o121 ∧ ρ_ = [(0, p0), (1, .int .i64 x1), (5, .int .i64 a127)] ∧ Mem w [] w_ []) k (ρ1 := [(0, p0), (1, .int .i64 x1), (5, .int .i64 0)]) ⟨_, ho122, rfl, HM⟩ (Sub.cons rfl (Sub.cons rfl (Sub.cons rfl Sub.nil))) ?_
    clear HM ho122
    rintro k132 _ w133 ⟨a127, ho122, rfl, HM⟩
    obtain _ | k132 := k132
    · exact nomatch ((spec_l6At.l0_z x0 x1 a127).symm.trans ho122)
    replace ho122 := (spec_l6At.l0_s x0 x1 k132 a127).symm.trans ho122
    refine run_seq ?_
    refine run_seq ?_
    refine run_region rfl ?_
    refine ox rfl rfl rfl rfl (ex_move rfl rfl) ?_
    refine ox rfl rfl rfl rfl (ex_move rfl rfl) ?_
    refine ox rfl rfl rfl rfl (ex_len (d := kMember) (xs := x0) rfl rfl Try.underlying24 hp0) ?_
    refine ox rfl rfl rfl rfl (ex_lss rfl rfl rfl) ?_
    refine ops_nil (at_then ?_)
    refine run_cond (b := (decide (a127 < (x0.length : Int)))) rfl (fun hb134 => ?_) (fun hb134 => ?_)
    · replace ho122 := cond_t hb134 ho122
      refine run_skip ?_
      refine at_then ?_
      refine run_seq ?_
      refine run_block ?_
      refine run_seq ?_
      obtain ⟨e135, ho122⟩ := chk_some ho122
      refine run_region rfl ?_
      refine ox rfl rfl rfl rfl (ex_move rfl rfl) ?_
      refine ox rfl rfl rfl rfl (ex_move rfl rfl) ?_
      have hc136 : CellsAt _ (sb p0) (so p0 + (a127).toNat * 3) [(.int .i64 ((gt x0 a127).fKey)), (.int .i64 ((gt x0 a127).fRef.fTx)), (.int .i64 ((gt x0 a127).fRef.fAt))] := rd_plain hp0 e135
      refine ox rfl rfl rfl rfl (ex_indexAddr (d := kMember) rfl rfl rfl Try.underlying24 tsz38 hp0 (idx_lo e135) (idx_hi e135)) ?_
      refine ox rfl rfl rfl rfl (ex_fieldAddr (off' := so p0 + (a127).toNat * 3) rfl rfl Try.underlying38 rfl tsz2 rfl) ?_
      refine ox rfl rfl rfl rfl (ex_load1 rfl rfl Try.underlying2 rfl ((HM.at_ hc136) 0 _ rfl)) ?_
      refine ox rfl rfl rfl rfl (ex_move rfl rfl) ?_
      refine ox rfl rfl rfl rfl (ex_eql rfl rfl rfl) ?_
      refine ops_nil (at_then ?_)
      refine run_cond (b := (((gt x0 a127).fKey) == x1)) rfl (fun hb137 => ?_) (fun hb137 => ?_)
      · replace ho122 := cond_t hb137 ho122
        refine run_seq ?_
        refine run_region rfl ?_
        refine ox rfl rfl rfl rfl (ex_move rfl rfl) ?_
        refine ox rfl rfl rfl rfl (ex_assign rfl rfl) ?_
        refine ops_nil (at_then ?_)
        refine run_ret ?_
        refine at_block_ret ?_
        refine at_then_ret ?_
        refine at_then_ret ?_
        refine at_block_ret ?_
        refine at_then_ret ?_
        have hR := Option.some.inj ho122
        subst hR
        have hT := thn_inl H
        have hR := Option.some.inj hT
        subst hR
        exact at_ret1 rfl rfl ⟨_, rfl, rfl, HM⟩
      · replace ho122 := cond_f hb137 ho122
        refine run_skip ?_
        refine at_block ?_
        refine at_then ?_
        refine run_region rfl ?_
        refine ox rfl rfl rfl rfl (ex_move rfl rfl) ?_
        refine ox rfl rfl rfl rfl (ex_add rfl rfl rfl) ?_
        refine ox rfl rfl rfl rfl (ex_assign rfl rfl) ?_
        refine ops_nil ?_
        exact at_again k132 (ρ1 := [(0, p0), (1, .int .i64 x1), (5, .int .i64 (wrap64 (a127 + 1)))]) (Nat.lt_succ_self _) ⟨_, ho122, rfl, HM⟩ (Sub.cons rfl (Sub.cons rfl (Sub.cons rfl Sub.nil)))
    · replace ho122 := cond_f hb134 ho122
      refine run_exit ?_
      refine at_then_exit ?_
      refine at_then_exit ?_
      refine at_block_exit ?_
      exact at_mid (ρ' := []) ⟨(Option.some.inj ho122), rfl, HM⟩ Sub.nil
  · rintro _ w138 ⟨rfl, rfl, HM⟩
    replace H := (thn_inr H)
    refine run_seq ?_
    refine run_region rfl ?_
    refine ox rfl rfl rfl rfl (ex_assign rfl rfl) ?_
    refine ops_nil (at_then ?_)
    refine run_ret ?_
    have hR := Option.some.inj H
    subst hR
    exact at_ret1 rfl rfl ⟨_, rfl, rfl, HM⟩

def spec_l6Join.l0 (x0 : List Member) (x1 : Member) : Nat → Int → Int → Option (((List Member) × Int) ⊕ Int)
  | 0, _, _ => none
  | k + 1, a262, a263 => (bif (decide (a263 < (x0.length : Int))) then (chk (idxOk a263 x0.length) (bif ((((gt x0 a263).fRef.fTx) == x1.fRef.fTx) && (((gt x0 a263).fRef.fAt) == x1.fRef.fAt)) then some (.inl (([] : List Member), 7)) else (chk (idxOk a263 x0.length) (bif (decide (((gt x0 a263).fKey) < x1.fKey)) then spec_l6Join.l0 x0 x1 k (wrap64 (a263 + 1)) (wrap64 (a263 + 1)) else spec_l6Join.l0 x0 x1 k a262 (wrap64 (a263 + 1)))))) else some (.inr a262))
theorem spec_l6Join.l0_z (x0 : List Member) (x1 : Member) (a262 : Int) (a263 : Int) : spec_l6Join.l0 x0 x1 0 a262 a263 = none := rfl
theorem spec_l6Join.l0_s (x0 : List Member) (x1 : Member) (k : Nat) (a262 : Int) (a263 : Int) : spec_l6Join.l0 x0 x1 (k + 1) a262 a263 = (bif (decide (a263 < (x0.length : Int))) then (chk (idxOk a263 x0.length) (bif ((((gt x0 a263).fRef.fTx) == x1.fRef.fTx) && (((gt x0 a263).fRef.fAt) == x1.fRef.fAt)) then some (.inl (([] : List Member), 7)) else (chk (idxOk a263 x0.length) (bif (decide (((gt x0 a263).fKey) < x1.fKey)) then spec_l6Join.l0 x0 x1 k (wrap64 (a263 + 1)) (wrap64 (a263 + 1)) else spec_l6Join.l0 x0 x1 k a262 (wrap64 (a263 + 1)))))) else some (.inr a262)) := rfl
def spec_l6Join.f (k : Nat) (x0 : List Member) (x1 : Member) : Option ((List Member) × Int) := ((spec_l6At.f k x0 x1.fKey).bind fun t212 => (bif (decide (0 ≤ t212)) then some (([] : List Member), 7) else ((spec_l6Join.l0 x0 x1 k 0 0).bind fun o250 => thn o250 (fun r => some r) (fun a249 => (bif (decide (8 ≤ (x0.length : Int))) then some (([] : List Member), 2) else (chk (cutOk a249 x0.length) (chk (leB ((([] : List Member).length + (x0.take (a249).toNat).length) * 24) 140737488355328) (chk (cutOk a249 x0.length) (chk (leB (((([] : List Member) ++ (x0.take (a249).toNat)).length + ([x1] : List Member).length) * 24) 140737488355328) (chk (leB ((((([] : List Member) ++ (x0.take (a249).toNat)) ++ ([x1] : List Member)).length + (x0.drop (a249).toNat).length) * 24) 140737488355328) (some (((([] : List Member) ++ (x0.take (a249).toNat)) ++ ([x1] : List Member)) ++ (x0.drop (a249).toNat), 0))))))))))))
theorem spec_l6Join.calls {k : Nat} {x0 : List Member} {x1 : Member} {p0 : Value} {w : World} (hp0 : RdS kMember w p0 x0) {r : (List Member) × Int} (H : spec_l6Join.f k x0 x1 = some r) :
    Calls Try.prog 120 ([p0, .agg #[(.int .i64 x1.fKey), (.int .i64 x1.fRef.fTx), (.int .i64 x1.fRef.fAt)]] : List Value).toArray w (fun e w_ => ∃ v, e = .returned v ∧ ∃ u0 : Value, v = (.tuple #[u0, .int .i64 r.2]) ∧ Mem w [] w_ [own kMember 38 u0 r.1]) := by
  have HM := Mem.start w
  refine calls_run (N := 54) Try.func120 rfl rfl rfl rfl ?_
  unfold spec_l6Join.f at H
  refine run_seq ?_
  refine run_region rfl ?_
  refine od rfl rfl rfl rfl (does_box (cs := [.int .i64 x1.fKey, .int .i64 x1.fRef.fTx, .int .i64 x1.fRef.fAt]) rfl rfl rfl HM) ?_
  rintro _ w208 ⟨b205, rfl, HM⟩
  refine ox rfl rfl rfl rfl (ex_assign rfl rfl) ?_
  refine ox rfl rfl rfl rfl (ex_assign rfl rfl) ?_
  refine ops_nil (at_then (run_seq ?_))
  refine run_seq ?_
  obtain ⟨t212, h213, H⟩ := bind_some H
  refine run_region rfl ?_
  refine ox rfl rfl rfl rfl (ex_move rfl rfl) ?_
  refine ox rfl rfl rfl rfl (ex_fieldAddr (off' := 0) rfl rfl Try.underlying38 rfl tsz2 rfl) ?_
  refine ox rfl rfl rfl rfl (ex_load1 rfl rfl Try.underlying2 rfl ((HM.box_at 0 rfl) 0 _ rfl)) ?_
  refine od rfl rfl rfl rfl (does_callk rfl callok119 rfl (spec_l6At.calls (x0 := x0) (x1 := x1.fKey) (HM.rd hp0) h213)) ?_
  rintro _ w214 ⟨rfl, hn⟩
  replace HM : Mem w [] w214 [box b205 38 [.int .i64 x1.fKey, .int .i64 x1.fRef.fTx, .int .i64 x1.fRef.fAt]] := HM.call hn
  refine ox rfl rfl rfl rfl (ex_geq rfl rfl rfl) ?_
  refine ops_nil (at_then ?_)
  refine run_cond (b := (decide (0 ≤ t212))) rfl (fun hb215 => ?_) (fun hb215 => ?_)
  · replace H := cond_t hb215 H
    refine run_seq ?_
    refine run_region rfl ?_
    refine ox rfl rfl rfl rfl (ex_assign rfl rfl) ?_
    refine ox rfl rfl rfl rfl (ex_assign rfl rfl) ?_
    refine ops_nil (at_then ?_)
    refine run_ret ?_
    refine at_then_ret ?_
    replace HM := HM.empty kMember 38 none
    replace HM := (HM.front 1 rfl rfl).drop
    have hR := Option.some.inj H
    subst hR
    exact at_ret2 rfl rfl rfl ⟨_, rfl, _, rfl, HM⟩
  · replace H := cond_f hb215 H
    refine run_skip ?_
    refine at_then ?_
    refine run_seq ?_
    refine run_region rfl ?_
    refine ox rfl rfl rfl rfl (ex_assign rfl rfl) ?_
    refine ops_nil (at_then ?_)
    obtain ⟨o250, ho251, H⟩ := bind_some H
    refine run_mid (fun ρ_ w_ => ∃ a249 : Int, Sum.inr a249 = o250 ∧ ρ_ = [(0, p0), (3, .pointer (some ⟨b205, 0, none⟩)), (6, .int .i64 a249)] ∧ Mem w [] w_ [box b205 38 [.int .i64 x1.fKey, .int .i64 x1.fRef.fTx, .int .i64 x1.fRef.fAt]]) ?_ ?_
    · skip
      refine run_seq ?_
      refine run_region rfl ?_
      refine ox rfl rfl rfl rfl (ex_assign rfl rfl) ?_
      refine ops_nil (at_then ?_)
      refine run_block ?_
      refine run_loop (fun k_ ρ_ w_ => ∃ a262 : Int, ∃ a263 : Int, spec_l6Join.l0 x0 x1 k_ a262 a263 = some o250 ∧ ρ_ = [(0, p0), (3, .pointer (some ⟨b205, 0, none⟩)), (6, .int .i64 a262), (7, .int .i64 a263)] ∧ Mem w [] w_ [box b205 38 [.int .i64 x1.fKey, .int .i64 x1.fRef.fTx, .int .i64 x1.fRef.fAt]]) k (ρ1 := [(0, p0), (3, .pointer (some ⟨b205, 0, none⟩)), (6, .int .i64 0), (7, .int .i64 0)]) ⟨_, _, ho251, rfl, HM⟩ (Sub.cons rfl (Sub.cons rfl (Sub.cons rfl (Sub.cons rfl Sub.nil)))) ?_
      clear HM ho251
      rintro k274 _ w275 ⟨a262, a263, ho251, rfl, HM⟩
      obtain _ | k274 := k274
      · exact nomatch ((spec_l6Join.l0_z x0 x1 a262 a263).symm.trans ho251)
      replace ho251 := (spec_l6Join.l0_s x0 x1 k274 a262 a263).symm.trans ho251
      refine run_seq ?_
      refine run_seq ?_
      refine run_region rfl ?_
      refine ox rfl rfl rfl rfl (ex_move rfl rfl) ?_
      refine ox rfl rfl rfl rfl (ex_move rfl rfl) ?_
      refine ox rfl rfl rfl rfl (ex_len (d := kMember) (xs := x0) rfl rfl Try.underlying24 hp0) ?_
      refine ox rfl rfl rfl rfl (ex_lss rfl rfl rfl) ?_
      refine ops_nil (at_then ?_)
      refine run_cond (b := (decide (a263 < (x0.length : Int)))) rfl (fun hb276 => ?_) (fun hb276 => ?_)
      · replace ho251 := cond_t hb276 ho251
        refine run_skip ?_
        refine at_then ?_
        refine run_seq ?_
        refine run_block ?_
        refine run_seq ?_
        refine run_seq ?_
        obtain ⟨e280, ho251⟩ := chk_some ho251
        refine run_drawf (fun w_ => Mem w [] w_ [box b205 38 [.int .i64 x1.fKey, .int .i64 x1.fRef.fTx, .int .i64 x1.fRef.fAt]]) [(0, true), (1, true), (2, true), (3, true), (4, true), (5, true), (6, true), (7, true)] mixed rfl rfl (by kernel_rfl) ?_
        replace HM := HM.grow (fr_drew _)
        have hS := Mem.suf (M := []) HM
        refine dp rfl rfl rfl rfl (ex_move rfl rfl) hS ?_
        refine dp rfl rfl rfl rfl (ex_move rfl rfl) hS ?_
        have hc281 : CellsAt _ (sb p0) (so p0 + (a263).toNat * 3) [(.int .i64 ((gt x0 a263).fKey)), (.int .i64 ((gt x0 a263).fRef.fTx)), (.int .i64 ((gt x0 a263).fRef.fAt))] := rd_plain hp0 e280
        refine dp rfl rfl rfl rfl (ex_indexAddr (d := kMember) rfl rfl rfl Try.underlying24 tsz38 hp0 (idx_lo e280) (idx_hi e280)) hS ?_
        refine dp rfl rfl rfl rfl (ex_fieldAddr (off' := so p0 + (a263).toNat * 3 + 1) rfl rfl Try.underlying38 rfl tsz36 rfl) hS ?_
        refine drwp_take rfl (guard_none rfl) rfl rfl (fun w_ hS_ => (ex_loadN (cs := [(.int .i64 ((gt x0 a263).fRef.fTx)), (.int .i64 ((gt x0 a263).fRef.fAt))]) rfl rfl Try.underlying36 rfl tsz36 rfl ((hS_.at_ hc281).sub 1 2 rfl))) hS ?_
        refine dp rfl rfl rfl rfl (ex_fieldAddr (off' := 1) rfl rfl Try.underlying38 rfl tsz36 rfl) hS ?_
        refine drwp_take rfl (guard_none rfl) rfl rfl (fun w_ hS_ => (ex_loadN (cs := [(.int .i64 x1.fRef.fTx), (.int .i64 x1.fRef.fAt)]) rfl rfl Try.underlying36 rfl tsz36 rfl ((hS_.box_at 0 rfl).sub 1 2 rfl))) hS ?_
        refine dp rfl rfl rfl rfl (ex_aeql rfl rfl rfl (by kernel_rfl) (eqs36 _ _ _ _ _)) hS ?_
        refine drwp_done ?_
        refine at_then ?_
        refine run_cond (b := ((((gt x0 a263).fRef.fTx) == x1.fRef.fTx) && (((gt x0 a263).fRef.fAt) == x1.fRef.fAt))) rfl (fun hb282 => ?_) (fun hb282 => ?_)
        · replace ho251 := cond_t hb282 ho251
          refine run_seq ?_
          refine run_region rfl ?_
          refine ox rfl rfl rfl rfl (ex_assign rfl rfl) ?_
          refine ox rfl rfl rfl rfl (ex_assign rfl rfl) ?_
          refine ops_nil (at_then ?_)
          refine run_ret ?_
          refine at_then_ret ?_
          refine at_block_ret ?_
          refine at_then_ret ?_
          refine at_then_ret ?_
          refine at_block_ret ?_
          refine at_then_ret ?_
          replace HM := HM.empty kMember 38 none
          replace HM := (HM.front 1 rfl rfl).drop
          have hR := Option.some.inj ho251
          subst hR
          have hT := thn_inl H
          have hR := Option.some.inj hT
          subst hR
          exact at_ret2 rfl rfl rfl ⟨_, rfl, _, rfl, HM⟩
        · replace ho251 := cond_f hb282 ho251
          refine run_skip ?_
          refine at_then ?_
          refine run_seq ?_
          obtain ⟨e284, ho251⟩ := chk_some ho251
          refine run_drawf (fun w_ => Mem w [] w_ [box b205 38 [.int .i64 x1.fKey, .int .i64 x1.fRef.fTx, .int .i64 x1.fRef.fAt]]) [(0, true), (1, true), (2, true), (3, true), (4, true), (5, true), (6, true), (7, true)] mixed rfl rfl (by kernel_rfl) ?_
          replace HM := HM.grow (fr_drew _)
          have hS := Mem.suf (M := []) HM
          refine dp rfl rfl rfl rfl (ex_move rfl rfl) hS ?_
          refine dp rfl rfl rfl rfl (ex_move rfl rfl) hS ?_
          have hc285 : CellsAt _ (sb p0) (so p0 + (a263).toNat * 3) [(.int .i64 ((gt x0 a263).fKey)), (.int .i64 ((gt x0 a263).fRef.fTx)), (.int .i64 ((gt x0 a263).fRef.fAt))] := rd_plain hp0 e284
          refine dp rfl rfl rfl rfl (ex_indexAddr (d := kMember) rfl rfl rfl Try.underlying24 tsz38 hp0 (idx_lo e284) (idx_hi e284)) hS ?_
          refine dp rfl rfl rfl rfl (ex_fieldAddr (off' := so p0 + (a263).toNat * 3) rfl rfl Try.underlying38 rfl tsz2 rfl) hS ?_
          refine drwp_take rfl (guard_none rfl) rfl rfl (fun w_ hS_ => (ex_load1 rfl rfl Try.underlying2 rfl ((hS_.at_ hc285) 0 _ rfl))) hS ?_
          refine dp rfl rfl rfl rfl (ex_fieldAddr (off' := 0) rfl rfl Try.underlying38 rfl tsz2 rfl) hS ?_
          refine drwp_take rfl (guard_none rfl) rfl rfl (fun w_ hS_ => (ex_load1 rfl rfl Try.underlying2 rfl ((hS_.box_at 0 rfl) 0 _ rfl))) hS ?_
          refine dp rfl rfl rfl rfl (ex_lss rfl rfl rfl) hS ?_
          refine drwp_done ?_
          refine at_then ?_
          refine run_cond (b := (decide (((gt x0 a263).fKey) < x1.fKey))) rfl (fun hb286 => ?_) (fun hb286 => ?_)
          · replace ho251 := cond_t hb286 ho251
            refine run_region rfl ?_
            refine ox rfl rfl rfl rfl (ex_move rfl rfl) ?_
            refine ox rfl rfl rfl rfl (ex_add rfl rfl rfl) ?_
            refine ox rfl rfl rfl rfl (ex_assign rfl rfl) ?_
            refine ops_nil ?_
            refine at_block ?_
            refine at_then ?_
            refine run_region rfl ?_
            refine ox rfl rfl rfl rfl (ex_move rfl rfl) ?_
            refine ox rfl rfl rfl rfl (ex_add rfl rfl rfl) ?_
            refine ox rfl rfl rfl rfl (ex_assign rfl rfl) ?_
            refine ops_nil ?_
            exact at_again k274 (ρ1 := [(0, p0), (3, .pointer (some ⟨b205, 0, none⟩)), (6, .int .i64 (wrap64 (a263 + 1))), (7, .int .i64 (wrap64 (a263 + 1)))]) (Nat.lt_succ_self _) ⟨_, _, ho251, rfl, HM⟩ (Sub.cons rfl (Sub.cons rfl (Sub.cons rfl (Sub.cons rfl Sub.nil))))
          · replace ho251 := cond_f hb286 ho251
            refine run_skip ?_
            refine at_block ?_
            refine at_then ?_
            refine run_region rfl ?_
            refine ox rfl rfl rfl rfl (ex_move rfl rfl) ?_
            refine ox rfl rfl rfl rfl (ex_add rfl rfl rfl) ?_
            refine ox rfl rfl rfl rfl (ex_assign rfl rfl) ?_
            refine ops_nil ?_
            exact at_again k274 (ρ1 := [(0, p0), (3, .pointer (some ⟨b205, 0, none⟩)), (6, .int .i64 a262), (7, .int .i64 (wrap64 (a263 + 1)))]) (Nat.lt_succ_self _) ⟨_, _, ho251, rfl, HM⟩ (Sub.cons rfl (Sub.cons rfl (Sub.cons rfl (Sub.cons rfl Sub.nil))))
      · replace ho251 := cond_f hb276 ho251
        refine run_exit ?_
        refine at_then_exit ?_
        refine at_then_exit ?_
        refine at_block_exit ?_
        exact at_mid (ρ' := [(0, p0), (3, .pointer (some ⟨b205, 0, none⟩)), (6, .int .i64 a262)]) ⟨_, (Option.some.inj ho251), rfl, HM⟩ (Sub.cons rfl (Sub.cons rfl (Sub.cons rfl Sub.nil)))
    · rintro _ w287 ⟨a249, rfl, rfl, HM⟩
      replace H := (thn_inr H)
      refine run_seq ?_
      refine run_seq ?_
      refine run_region rfl ?_
      refine ox rfl rfl rfl rfl (ex_move rfl rfl) ?_
      refine ox rfl rfl rfl rfl (ex_len (d := kMember) (xs := x0) rfl rfl Try.underlying24 hp0) ?_
      refine ox rfl rfl rfl rfl (ex_geq rfl rfl rfl) ?_
      refine ops_nil (at_then ?_)
      refine run_cond (b := (decide (8 ≤ (x0.length : Int)))) rfl (fun hb289 => ?_) (fun hb289 => ?_)
      · replace H := cond_t hb289 H
        refine run_seq ?_
        refine run_region rfl ?_
        refine ox rfl rfl rfl rfl (ex_assign rfl rfl) ?_
        refine ox rfl rfl rfl rfl (ex_assign rfl rfl) ?_
        refine ops_nil (at_then ?_)
        refine run_ret ?_
        refine at_then_ret ?_
        replace HM := HM.empty kMember 38 none
        replace HM := (HM.front 1 rfl rfl).drop
        have hR := Option.some.inj H
        subst hR
        exact at_ret2 rfl rfl rfl ⟨_, rfl, _, rfl, HM⟩
      · replace H := cond_f hb289 H
        refine run_skip ?_
        refine at_then ?_
        refine run_seq ?_
        obtain ⟨e294, H⟩ := chk_some H
        obtain ⟨e298, H⟩ := chk_some H
        refine run_region rfl ?_
        refine od rfl rfl rfl rfl (does_lit (e := 38) (cs := []) (xs := ([] : List Member)) kMember rfl rfl (fun _ => by kernel_rfl) rfl rfl (fun _ _ h => by have h' : _ = [] := h; subst h'; exact .nil) HM.emp) ?_
        rintro v291 w301 HM
        refine ox rfl rfl rfl rfl (ex_move rfl rfl) ?_
        refine ox rfl rfl rfl rfl (ex_move rfl rfl) ?_
        refine ops_exE rfl (guard_none rfl) rfl rfl (ex_cutH kMember rfl rfl rfl Try.underlying24 tsz38 hp0 e294) ?_
        rintro u295 hr297
        refine od rfl rfl rfl rfl (does_appendR kMember flat_plain rfl rfl rfl Try.underlying24 tsz38 rfl tby38 tz38 rfl rfl (leB_le e298) (HM.rd hr297) HM) ?_
        rintro v299 w302 HM
        refine ox rfl rfl rfl rfl (ex_assign rfl rfl) ?_
        refine ops_nil (at_then (run_seq ?_))
        obtain ⟨e303, H⟩ := chk_some H
        obtain ⟨e310, H⟩ := chk_some H
        obtain ⟨e313, H⟩ := chk_some H
        refine run_drawf (fun w_ => Mem w [] w_ [box b205 38 [.int .i64 x1.fKey, .int .i64 x1.fRef.fTx, .int .i64 x1.fRef.fAt]]) [(0, true), (1, true), (4, true), (5, true), (6, true), (2, false), (3, false), (7, false), (8, true), (9, true)] mixed rfl rfl (by kernel_rfl) ?_
        replace HM := HM.grow (fr_drew _)
        have hS := Mem.suf (M := [own kMember 38 v299 (([] : List Member) ++ (x0.take (a249).toNat))]) HM
        refine dp rfl rfl rfl rfl (ex_move rfl rfl) hS ?_
        refine drwp_take rfl (guard_none rfl) rfl rfl (fun w_ hS_ => (ex_loadN (cs := [(.int .i64 x1.fKey), (.int .i64 x1.fRef.fTx), (.int .i64 x1.fRef.fAt)]) rfl rfl Try.underlying38 rfl tsz38 rfl ((hS_.box_at 0 rfl).sub 0 3 rfl))) hS ?_
        refine dp rfl rfl rfl rfl (ex_move rfl rfl) hS ?_
        refine dp rfl rfl rfl rfl (ex_move rfl rfl) hS ?_
        refine drwp_takeE rfl (guard_none rfl) rfl rfl (ex_cutL kMember rfl rfl rfl Try.underlying24 tsz38 hp0 e303) hS ?_
        rintro u304 hr306
        refine drwp_one rfl (guard_none rfl) rfl rfl (does_lit (e := 38) (cs := [.int .i64 x1.fKey, .int .i64 x1.fRef.fTx, .int .i64 x1.fRef.fAt]) (xs := ([x1] : List Member)) kMember rfl rfl (fun _ => by kernel_rfl) rfl rfl (fun _ _ h => by have h' : _ = [] := h; subst h'; exact (Elems.cons (d := kMember) (x := x1) (f := []) ⟨rfl, rfl⟩ .nil)) HM.emp) ?_
        rintro v307 w316 HM
        have hS := Mem.suf (M := [own kMember 38 v307 ([x1] : List Member), own kMember 38 v299 (([] : List Member) ++ (x0.take (a249).toNat))]) HM
        refine ⟨hS, ?_⟩
        replace HM := HM.front 1 rfl rfl
        refine drwp_one rfl (guard_none rfl) rfl rfl (does_appendR kMember flat_plain rfl rfl rfl Try.underlying24 tsz38 rfl tby38 tz38 rfl rfl (leB_le e310) (HM.own_rd 1 rfl) HM) ?_
        rintro v311 w317 HM
        have hS := Mem.suf (M := [own kMember 38 v311 ((([] : List Member) ++ (x0.take (a249).toNat)) ++ ([x1] : List Member)), own kMember 38 v307 ([x1] : List Member)]) HM
        refine ⟨hS, ?_⟩
        refine drwp_one rfl (guard_none rfl) rfl rfl (does_appendR kMember flat_plain rfl rfl rfl Try.underlying24 tsz38 rfl tby38 tz38 rfl rfl (leB_le e313) (HM.rd hr306) HM) ?_
        rintro v314 w318 HM
        have hS := Mem.suf (M := [own kMember 38 v314 (((([] : List Member) ++ (x0.take (a249).toNat)) ++ ([x1] : List Member)) ++ (x0.drop (a249).toNat)), own kMember 38 v307 ([x1] : List Member)]) HM
        refine ⟨hS, ?_⟩
        refine dp rfl rfl rfl rfl (ex_assign rfl rfl) hS ?_
        refine dp rfl rfl rfl rfl (ex_assign rfl rfl) hS ?_
        refine drwp_done ?_
        refine at_then ?_
        refine run_ret ?_
        replace HM := (HM.front 1 rfl rfl).drop
        replace HM := (HM.front 1 rfl rfl).drop
        have hR := Option.some.inj H
        subst hR
        exact at_ret2 rfl rfl rfl ⟨_, rfl, _, rfl, HM⟩

def spec_l6Right.l0 (x0 : l1Src) : Nat → Int → (List Member) → Int → Option (Int × (List Member))
  | 0, _, _, _ => none
  | k + 1, a517, a519, a521 => (bif (decide (0 < a521)) then ((spec_l1Next.f k (⟨x0.fCode, a517⟩ : l1Src) 6).bind fun t550 => ((spec_l1Next.f k (⟨x0.fCode, t550.2⟩ : l1Src) 9).bind fun t558 => ((spec_l6Join.f k a519 (⟨wrap64 (1 + t550.1), (⟨wrap64 (1 + t558.1), 0⟩ : Ref)⟩ : Member)).bind fun t573 => (bif (t573.2 == 0) then spec_l6Right.l0 x0 k t558.2 t573.1 (wrap64 (a521 - 1)) else spec_l6Right.l0 x0 k t558.2 a519 (wrap64 (a521 - 1)))))) else some (a517, a519))
theorem spec_l6Right.l0_z (x0 : l1Src) (a517 : Int) (a519 : List Member) (a521 : Int) : spec_l6Right.l0 x0 0 a517 a519 a521 = none := rfl
theorem spec_l6Right.l0_s (x0 : l1Src) (k : Nat) (a517 : Int) (a519 : List Member) (a521 : Int) : spec_l6Right.l0 x0 (k + 1) a517 a519 a521 = (bif (decide (0 < a521)) then ((spec_l1Next.f k (⟨x0.fCode, a517⟩ : l1Src) 6).bind fun t550 => ((spec_l1Next.f k (⟨x0.fCode, t550.2⟩ : l1Src) 9).bind fun t558 => ((spec_l6Join.f k a519 (⟨wrap64 (1 + t550.1), (⟨wrap64 (1 + t558.1), 0⟩ : Ref)⟩ : Member)).bind fun t573 => (bif (t573.2 == 0) then spec_l6Right.l0 x0 k t558.2 t573.1 (wrap64 (a521 - 1)) else spec_l6Right.l0 x0 k t558.2 a519 (wrap64 (a521 - 1)))))) else some (a517, a519)) := rfl
def spec_l6Right.f (k : Nat) (x0 : l1Src) : Option ((List Member) × Int) := (((spec_l1Next.f k x0 9).bind fun t483 => spec_l6Right.l0 x0 k t483.2 ([] : List Member) t483.1).bind (cur2 (fun a477 a479 => some (a479, a477))))
theorem spec_l6Right.calls {k : Nat} {x0 : l1Src} {b0 : Nat} {p0_0 : Value} {w wo : World} {X : List Nat} (hwo : Olds wo w X) (hX : Hold w [box b0 150 [p0_0, .int .i64 x0.fAt]] X) (hXn : X.Nodup) (hXl : ∀ b ∈ X, b < w.heap.size) (hp0_0 : RdS kU8 wo p0_0 x0.fCode) {r : (List Member) × Int} (H : spec_l6Right.f k x0 = some r) :
    Calls Try.prog 103 ([.pointer (some ⟨b0, 0, none⟩)] : List Value).toArray w (fun e w_ => ∃ v, e = .returned v ∧ ∃ u0 : Value, v = u0 ∧ Mem w X w_ [own kMember 38 u0 r.1, box b0 150 [p0_0, .int .i64 r.2]]) := by
  have HM := Mem.startX hX hXn hXl
  refine calls_run (N := 33) Try.func103 rfl rfl rfl rfl ?_
  unfold spec_l6Right.f at H
  refine run_seq ?_
  refine run_region rfl ?_
  refine ox rfl rfl rfl rfl (ex_assign rfl rfl) ?_
  refine ops_nil (at_then (run_seq ?_))
  refine run_region rfl ?_
  refine od rfl rfl rfl rfl (does_lit (e := 38) (cs := []) (xs := ([] : List Member)) kMember rfl rfl (fun _ => by kernel_rfl) rfl rfl (fun _ _ h => by have h' : _ = [] := h; subst h'; exact .nil) HM.emp) ?_
  rintro v385 w388 HM
  refine ox rfl rfl rfl rfl (ex_assign rfl rfl) ?_
  refine ops_nil (at_then ?_)
  obtain ⟨o481, ho482, H⟩ := bind_some H
  refine run_mid (fun ρ_ w_ => ∃ a477 : Int, ∃ v478 : Value, ∃ a479 : List Member, (a477, a479) = o481 ∧ ρ_ = [(3, v478)] ∧ Mem w X w_ [box b0 150 [p0_0, .int .i64 a477], own kMember 38 v478 a479]) ?_ ?_
  · clear H
    refine run_seq ?_
    obtain ⟨t483, h484, ho482⟩ := bind_some ho482
    refine run_region rfl ?_
    refine ox rfl rfl rfl rfl (ex_move rfl rfl) ?_
    replace HM := HM.front 1 rfl rfl
    obtain ⟨F485, hF486, hFn487, hFl488, HMh489, hcl490⟩ := HM.hide (Ms := [box b0 150 [p0_0, .int .i64 x0.fAt]])
    refine od rfl rfl rfl rfl (does_callk rfl callok52 rfl (spec_l1Next.calls (x0 := x0) (x1 := 9) (hide_olds _ _) hF486 hFn487 hFl488 (HMh489.rdo hwo hp0_0) h484)) ?_
    rintro _ w491 ⟨rfl, hn⟩
    replace HM : Mem w X w491 [box b0 150 [p0_0, .int .i64 t483.2], own kMember 38 v385 ([] : List Member)] := hcl490 _ _ hn
    refine ox rfl rfl rfl rfl (ex_assign rfl rfl) ?_
    refine ops_nil (at_then ?_)
    refine run_block ?_
    refine run_loop (fun k_ ρ_ w_ => ∃ a517 : Int, ∃ v518 : Value, ∃ a519 : List Member, ∃ a521 : Int, spec_l6Right.l0 x0 k_ a517 a519 a521 = some o481 ∧ ρ_ = [(0, .pointer (some ⟨b0, 0, none⟩)), (3, v518), (4, .int .i64 a521)] ∧ Mem w X w_ [box b0 150 [p0_0, .int .i64 a517], own kMember 38 v518 a519]) k (ρ1 := [(0, .pointer (some ⟨b0, 0, none⟩)), (3, v385), (4, .int .i64 t483.1)]) ⟨_, _, _, _, ho482, rfl, HM⟩ (Sub.cons rfl (Sub.cons rfl (Sub.cons rfl Sub.nil))) ?_
    clear HM ho482
    rintro k547 _ w548 ⟨a517, v518, a519, a521, ho482, rfl, HM⟩
    obtain _ | k547 := k547
    · exact nomatch ((spec_l6Right.l0_z x0 a517 a519 a521).symm.trans ho482)
    replace ho482 := (spec_l6Right.l0_s x0 k547 a517 a519 a521).symm.trans ho482
    refine run_seq ?_
    refine run_seq ?_
    refine run_region rfl ?_
    refine ox rfl rfl rfl rfl (ex_move rfl rfl) ?_
    refine ox rfl rfl rfl rfl (ex_gtr rfl rfl rfl) ?_
    refine ops_nil (at_then ?_)
    refine run_cond (b := (decide (0 < a521))) rfl (fun hb549 => ?_) (fun hb549 => ?_)
    · replace ho482 := cond_t hb549 ho482
      refine run_skip ?_
      refine at_then ?_
      refine run_seq ?_
      refine run_block ?_
      refine run_seq ?_
      obtain ⟨t550, h551, ho482⟩ := bind_some ho482
      obtain ⟨t558, h559, ho482⟩ := bind_some ho482
      refine run_region rfl ?_
      refine ox rfl rfl rfl rfl (ex_move rfl rfl) ?_
      obtain ⟨F552, hF553, hFn554, hFl555, HMh556, hcl557⟩ := HM.hide (Ms := [box b0 150 [p0_0, .int .i64 a517]])
      refine od rfl rfl rfl rfl (does_callk rfl callok52 rfl (spec_l1Next.calls (x0 := (⟨x0.fCode, a517⟩ : l1Src)) (x1 := 6) (hide_olds _ _) hF553 hFn554 hFl555 (HMh556.rdo hwo hp0_0) h551)) ?_
      rintro _ w569 ⟨rfl, hn⟩
      replace HM : Mem w X w569 [box b0 150 [p0_0, .int .i64 t550.2], own kMember 38 v518 a519] := hcl557 _ _ hn
      refine ox rfl rfl rfl rfl (ex_add rfl rfl rfl) ?_
      refine ox rfl rfl rfl rfl (ex_move rfl rfl) ?_
      obtain ⟨F560, hF561, hFn562, hFl563, HMh564, hcl565⟩ := HM.hide (Ms := [box b0 150 [p0_0, .int .i64 t550.2]])
      refine od rfl rfl rfl rfl (does_callk rfl callok52 rfl (spec_l1Next.calls (x0 := (⟨x0.fCode, t550.2⟩ : l1Src)) (x1 := 9) (hide_olds _ _) hF561 hFn562 hFl563 (HMh564.rdo hwo hp0_0) h559)) ?_
      rintro _ w570 ⟨rfl, hn⟩
      replace HM : Mem w X w570 [box b0 150 [p0_0, .int .i64 t558.2], own kMember 38 v518 a519] := hcl565 _ _ hn
      refine ox rfl rfl rfl rfl (ex_add rfl rfl rfl) ?_
      refine ox rfl rfl rfl rfl (ex_build (cells := #[(.int .i64 (wrap64 (1 + t558.1))), (.int .i64 0)]) rfl rfl (by kernel_rfl)) ?_
      refine ox rfl rfl rfl rfl (ex_build (cells := #[(.int .i64 (wrap64 (1 + t550.1))), (.int .i64 (wrap64 (1 + t558.1))), (.int .i64 0)]) rfl rfl (by kernel_rfl)) ?_
      refine od rfl rfl rfl rfl (does_alloc (cs := [.int .i64 0, .int .i64 0, .int .i64 0]) rfl tz38 rfl HM) ?_
      rintro _ w571 ⟨b566, rfl, HM⟩
      refine odS rfl rfl rfl (does_store (vs := [.int .i64 (wrap64 (1 + t550.1)), .int .i64 (wrap64 (1 + t558.1)), .int .i64 0]) (cs' := [.int .i64 (wrap64 (1 + t550.1)), .int .i64 (wrap64 (1 + t558.1)), .int .i64 0]) rfl rfl rfl rfl tsz38 (Ones.int (Ones.int (Ones.int Ones.nil))) rfl rfl HM) ?_
      rintro w572 HM
      refine ops_nil (at_then (run_seq ?_))
      obtain ⟨t573, h574, ho482⟩ := bind_some ho482
      refine run_region rfl ?_
      refine ox rfl rfl rfl rfl (ex_move rfl rfl) ?_
      refine ox rfl rfl rfl rfl (ex_loadN (cs := [(.int .i64 (wrap64 (1 + t550.1))), (.int .i64 (wrap64 (1 + t558.1))), (.int .i64 0)]) rfl rfl Try.underlying38 rfl tsz38 rfl ((HM.box_at 0 rfl).sub 0 3 rfl)) ?_
      refine od rfl rfl rfl rfl (does_callk rfl callok120 rfl (spec_l6Join.calls (x0 := a519) (x1 := (⟨wrap64 (1 + t550.1), (⟨wrap64 (1 + t558.1), 0⟩ : Ref)⟩ : Member)) (HM.own_rd 2 rfl) h574)) ?_
      rintro _ w577 ⟨u575, rfl, hn⟩
      replace HM : Mem w X w577 [own kMember 38 u575 t573.1, box b566 38 [.int .i64 (wrap64 (1 + t550.1)), .int .i64 (wrap64 (1 + t558.1)), .int .i64 0], box b0 150 [p0_0, .int .i64 t558.2], own kMember 38 v518 a519] := HM.call hn
      refine ox rfl rfl rfl rfl (ex_move rfl rfl) ?_
      refine ox rfl rfl rfl rfl (ex_extract rfl rfl rfl) ?_
      refine ox rfl rfl rfl rfl (ex_extract rfl rfl rfl) ?_
      refine ox rfl rfl rfl rfl (ex_assign rfl rfl) ?_
      refine ox rfl rfl rfl rfl (ex_assign rfl rfl) ?_
      refine ops_nil (at_then (run_seq ?_))
      refine run_region rfl ?_
      refine ox rfl rfl rfl rfl (ex_move rfl rfl) ?_
      refine ox rfl rfl rfl rfl (ex_eql rfl rfl rfl) ?_
      refine ops_nil (at_then ?_)
      refine run_cond (b := (t573.2 == 0)) rfl (fun hb578 => ?_) (fun hb578 => ?_)
      · replace ho482 := cond_t hb578 ho482
        refine run_region rfl ?_
        refine ox rfl rfl rfl rfl (ex_move rfl rfl) ?_
        refine ox rfl rfl rfl rfl (ex_assign rfl rfl) ?_
        refine ops_nil ?_
        refine at_block ?_
        refine at_then ?_
        refine run_region rfl ?_
        refine ox rfl rfl rfl rfl (ex_move rfl rfl) ?_
        refine ox rfl rfl rfl rfl (ex_sub rfl rfl rfl) ?_
        refine ox rfl rfl rfl rfl (ex_assign rfl rfl) ?_
        refine ops_nil ?_
        replace HM := (HM.front 1 rfl rfl).drop
        replace HM := (HM.front 2 rfl rfl).drop
        replace HM := HM.front 1 rfl rfl
        exact at_again k547 (ρ1 := [(0, .pointer (some ⟨b0, 0, none⟩)), (3, u575), (4, .int .i64 (wrap64 (a521 - 1)))]) (Nat.lt_succ_self _) ⟨_, _, _, _, ho482, rfl, HM⟩ (Sub.cons rfl (Sub.cons rfl (Sub.cons rfl Sub.nil)))
      · replace ho482 := cond_f hb578 ho482
        refine run_skip ?_
        refine at_block ?_
        refine at_then ?_
        refine run_region rfl ?_
        refine ox rfl rfl rfl rfl (ex_move rfl rfl) ?_
        refine ox rfl rfl rfl rfl (ex_sub rfl rfl rfl) ?_
        refine ox rfl rfl rfl rfl (ex_assign rfl rfl) ?_
        refine ops_nil ?_
        replace HM := (HM.front 0 rfl rfl).drop
        replace HM := (HM.front 0 rfl rfl).drop
        exact at_again k547 (ρ1 := [(0, .pointer (some ⟨b0, 0, none⟩)), (3, v518), (4, .int .i64 (wrap64 (a521 - 1)))]) (Nat.lt_succ_self _) ⟨_, _, _, _, ho482, rfl, HM⟩ (Sub.cons rfl (Sub.cons rfl (Sub.cons rfl Sub.nil)))
    · replace ho482 := cond_f hb549 ho482
      refine run_exit ?_
      refine at_then_exit ?_
      refine at_then_exit ?_
      refine at_block_exit ?_
      exact at_mid (ρ' := [(3, v518)]) ⟨_, _, _, (Option.some.inj ho482), rfl, HM⟩ (Sub.cons rfl Sub.nil)
  · rintro _ w579 ⟨a477, v478, a479, rfl, rfl, HM⟩
    replace H := cur2_mk H
    refine run_seq ?_
    refine run_region rfl ?_
    refine ox rfl rfl rfl rfl (ex_move rfl rfl) ?_
    refine ox rfl rfl rfl rfl (ex_assign rfl rfl) ?_
    refine ops_nil (at_then ?_)
    refine run_ret ?_
    replace HM := HM.front 1 rfl rfl
    have hR := Option.some.inj H
    subst hR
    exact at_ret1 rfl rfl ⟨_, rfl, _, rfl, HM⟩

def spec_l1Pick.f (k : Nat) (x0 : l1Src) (x1 : List Int) : Option (Int × Int) := ((spec_l1Next.f k x0 (x1.length : Int)).bind fun t614 => (chk (idxOk t614.1 x1.length) (some ((gt x1 t614.1), t614.2))))
theorem spec_l1Pick.calls {k : Nat} {x0 : l1Src} {x1 : List Int} {b0 : Nat} {p0_0 : Value} {p1 : Value} {w wo : World} {X : List Nat} (hwo : Olds wo w X) (hX : Hold w [box b0 150 [p0_0, .int .i64 x0.fAt]] X) (hXn : X.Nodup) (hXl : ∀ b ∈ X, b < w.heap.size) (hp0_0 : RdS kU8 wo p0_0 x0.fCode) (hp1 : RdS kInt wo p1 x1) {r : Int × Int} (H : spec_l1Pick.f k x0 x1 = some r) :
    Calls Try.prog 53 ([.pointer (some ⟨b0, 0, none⟩), p1] : List Value).toArray w (fun e w_ => ∃ v, e = .returned v ∧ v = (.int .i64 r.1) ∧ Mem w X w_ [box b0 150 [p0_0, .int .i64 r.2]]) := by
  have HM := Mem.startX hX hXn hXl
  refine calls_run (N := 12) Try.func53 rfl rfl rfl rfl ?_
  unfold spec_l1Pick.f at H
  refine run_seq ?_
  refine run_region rfl ?_
  refine ox rfl rfl rfl rfl (ex_assign rfl rfl) ?_
  refine ops_nil (at_then (run_seq ?_))
  obtain ⟨t614, h615, H⟩ := bind_some H
  obtain ⟨e622, H⟩ := chk_some H
  refine run_region rfl ?_
  refine ox rfl rfl rfl rfl (ex_move rfl rfl) ?_
  refine ox rfl rfl rfl rfl (ex_move rfl rfl) ?_
  refine ox rfl rfl rfl rfl (ex_move rfl rfl) ?_
  refine ox rfl rfl rfl rfl (ex_len (d := kInt) (xs := x1) rfl rfl Try.underlying39 hp1) ?_
  obtain ⟨F616, hF617, hFn618, hFl619, HMh620, hcl621⟩ := HM.hide (Ms := [box b0 150 [p0_0, .int .i64 x0.fAt]])
  refine od rfl rfl rfl rfl (does_callk rfl callok52 rfl (spec_l1Next.calls (x0 := x0) (x1 := (x1.length : Int)) (hide_olds _ _) hF617 hFn618 hFl619 (HMh620.rdo hwo hp0_0) h615)) ?_
  rintro _ w624 ⟨rfl, hn⟩
  replace HM : Mem w X w624 [box b0 150 [p0_0, .int .i64 t614.2]] := hcl621 _ _ hn
  have hc623 : CellsAt _ (sb p1) (so p1 + (t614.1).toNat * 1) [(.int .i64 (gt x1 t614.1))] := rd_plain hp1 e622
  refine ox rfl rfl rfl rfl (ex_indexAddr (d := kInt) rfl rfl rfl Try.underlying39 tsz2 hp1 (idx_lo e622) (idx_hi e622)) ?_
  refine ox rfl rfl rfl rfl (ex_load1 rfl rfl Try.underlying2 rfl ((HM.ato hwo hc623) 0 _ rfl)) ?_
  refine ox rfl rfl rfl rfl (ex_assign rfl rfl) ?_
  refine ops_nil (at_then ?_)
  refine run_ret ?_
  have hR := Option.some.inj H
  subst hR
  exact at_ret1 rfl rfl ⟨_, rfl, rfl, HM⟩

def spec_l6Bent.f (k : Nat) (x0 : l1Src) : Option ((List Member) × Int) := ((spec_l6Right.f k x0).bind fun t660 => ((spec_l1Next.f k (⟨x0.fCode, t660.2⟩ : l1Src) 14).bind fun t671 => (bif (t671.1 == 0) then ((spec_l1Pick.f k (⟨x0.fCode, t671.2⟩ : l1Src) ([0, 1000, 900] : List Int)).bind fun t684 => ((spec_l1Pick.f k (⟨x0.fCode, t684.2⟩ : l1Src) ([1, 0, 61] : List Int)).bind fun t695 => (chk (leB ((t660.1.length + ([(⟨t684.1, (⟨t695.1, 0⟩ : Ref)⟩ : Member)] : List Member).length) * 24) 140737488355328) (some (t660.1 ++ ([(⟨t684.1, (⟨t695.1, 0⟩ : Ref)⟩ : Member)] : List Member), t695.2))))) else (bif (t671.1 == 1) then (chk (decide (0 ≤ (9 : Int))) (chk (leB (((9 : Int)).toNat * 24) 281474976710656) (some (List.replicate ((9 : Int)).toNat (⟨0, (⟨0, 0⟩ : Ref)⟩ : Member), t671.2)))) else (bif (t671.1 == 2) then (bif (decide (1 < (t660.1.length : Int))) then (chk (idxOk (0 : Int) t660.1.length) (chk (idxOk (1 : Int) t660.1.length) (some (t660.1.set ((1 : Int)).toNat (⟨(gt t660.1 (1 : Int)).fKey, (gt t660.1 (0 : Int)).fRef⟩ : Member), t671.2)))) else some (t660.1, t671.2)) else some (t660.1, t671.2))))))
theorem spec_l6Bent.calls {k : Nat} {x0 : l1Src} {b0 : Nat} {p0_0 : Value} {w wo : World} {X : List Nat} (hwo : Olds wo w X) (hX : Hold w [box b0 150 [p0_0, .int .i64 x0.fAt]] X) (hXn : X.Nodup) (hXl : ∀ b ∈ X, b < w.heap.size) (hp0_0 : RdS kU8 wo p0_0 x0.fCode) {r : (List Member) × Int} (H : spec_l6Bent.f k x0 = some r) :
    Calls Try.prog 48 ([.pointer (some ⟨b0, 0, none⟩)] : List Value).toArray w (fun e w_ => ∃ v, e = .returned v ∧ ∃ u0 : Value, v = u0 ∧ Mem w X w_ [own kMember 38 u0 r.1, box b0 150 [p0_0, .int .i64 r.2]]) := by
  have HM := Mem.startX hX hXn hXl
  refine calls_run (N := 37) Try.func48 rfl rfl rfl rfl ?_
  unfold spec_l6Bent.f at H
  refine run_seq ?_
  refine run_region rfl ?_
  refine ox rfl rfl rfl rfl (ex_assign rfl rfl) ?_
  refine ops_nil (at_then (run_seq ?_))
  obtain ⟨t660, h661, H⟩ := bind_some H
  refine run_region rfl ?_
  refine ox rfl rfl rfl rfl (ex_move rfl rfl) ?_
  obtain ⟨F664, hF665, hFn666, hFl667, HMh668, hcl669⟩ := HM.hide (Ms := [box b0 150 [p0_0, .int .i64 x0.fAt]])
  refine od rfl rfl rfl rfl (does_callk rfl callok103 rfl (spec_l6Right.calls (x0 := x0) (hide_olds _ _) hF665 hFn666 hFl667 (HMh668.rdo hwo hp0_0) h661)) ?_
  rintro u662 w670 ⟨_, rfl, hn⟩
  replace HM : Mem w X w670 [own kMember 38 u662 t660.1, box b0 150 [p0_0, .int .i64 t660.2]] := hcl669 _ _ hn
  refine ox rfl rfl rfl rfl (ex_assign rfl rfl) ?_
  refine ops_nil (at_then (run_seq ?_))
  refine run_seq ?_
  obtain ⟨t671, h672, H⟩ := bind_some H
  refine run_region rfl ?_
  refine ox rfl rfl rfl rfl (ex_move rfl rfl) ?_
  replace HM := HM.front 1 rfl rfl
  obtain ⟨F673, hF674, hFn675, hFl676, HMh677, hcl678⟩ := HM.hide (Ms := [box b0 150 [p0_0, .int .i64 t660.2]])
  refine od rfl rfl rfl rfl (does_callk rfl callok52 rfl (spec_l1Next.calls (x0 := (⟨x0.fCode, t660.2⟩ : l1Src)) (x1 := 14) (hide_olds _ _) hF674 hFn675 hFl676 (HMh677.rdo hwo hp0_0) h672)) ?_
  rintro _ w679 ⟨rfl, hn⟩
  replace HM : Mem w X w679 [box b0 150 [p0_0, .int .i64 t671.2], own kMember 38 u662 t660.1] := hcl678 _ _ hn
  refine ops_nil (at_then ?_)
  refine run_block ?_
  refine run_seq ?_
  refine run_region rfl ?_
  refine ox rfl rfl rfl rfl (ex_eql rfl rfl rfl) ?_
  refine ox rfl rfl rfl rfl (ex_assign rfl rfl) ?_
  refine ops_nil (at_then ?_)
  refine run_cond (b := (t671.1 == 0)) rfl (fun hb680 => ?_) (fun hb680 => ?_)
  · replace H := cond_t hb680 H
    obtain ⟨t684, h685, H⟩ := bind_some H
    obtain ⟨t695, h696, H⟩ := bind_some H
    obtain ⟨e706, H⟩ := chk_some H
    refine run_region rfl ?_
    refine ox rfl rfl rfl rfl (ex_move rfl rfl) ?_
    refine ox rfl rfl rfl rfl (ex_move rfl rfl) ?_
    refine od rfl rfl rfl rfl (does_lit (e := 2) (cs := [.int .i64 0, .int .i64 1000, .int .i64 900]) (xs := ([0, 1000, 900] : List Int)) kInt rfl rfl (fun _ => by kernel_rfl) rfl rfl (fun _ _ h => by have h' : _ = [] := h; subst h'; exact (Elems.cons (d := kInt) (x := 0) (f := []) ⟨rfl, rfl⟩ (Elems.cons (d := kInt) (x := 1000) (f := []) ⟨rfl, rfl⟩ (Elems.cons (d := kInt) (x := 900) (f := []) ⟨rfl, rfl⟩ .nil)))) HM.emp) ?_
    rintro v681 w709 HM
    replace HM := HM.front 1 rfl rfl
    obtain ⟨F686, hF687, hFn688, hFl689, HMh690, hcl691⟩ := HM.hide (Ms := [box b0 150 [p0_0, .int .i64 t671.2]])
    refine od rfl rfl rfl rfl (does_callk rfl callok53 rfl (spec_l1Pick.calls (x0 := (⟨x0.fCode, t671.2⟩ : l1Src)) (x1 := ([0, 1000, 900] : List Int)) (hide_olds _ _) hF687 hFn688 hFl689 (HMh690.rdo hwo hp0_0) (HMh690.own_rd 0 rfl) h685)) ?_
    rintro _ w710 ⟨rfl, hn⟩
    replace HM : Mem w X w710 [box b0 150 [p0_0, .int .i64 t684.2], own kInt 2 v681 ([0, 1000, 900] : List Int), own kMember 38 u662 t660.1] := hcl691 _ _ hn
    refine ox rfl rfl rfl rfl (ex_move rfl rfl) ?_
    refine od rfl rfl rfl rfl (does_lit (e := 2) (cs := [.int .i64 1, .int .i64 0, .int .i64 61]) (xs := ([1, 0, 61] : List Int)) kInt rfl rfl (fun _ => by kernel_rfl) rfl rfl (fun _ _ h => by have h' : _ = [] := h; subst h'; exact (Elems.cons (d := kInt) (x := 1) (f := []) ⟨rfl, rfl⟩ (Elems.cons (d := kInt) (x := 0) (f := []) ⟨rfl, rfl⟩ (Elems.cons (d := kInt) (x := 61) (f := []) ⟨rfl, rfl⟩ .nil)))) HM.emp) ?_
    rintro v692 w711 HM
    replace HM := HM.front 1 rfl rfl
    obtain ⟨F697, hF698, hFn699, hFl700, HMh701, hcl702⟩ := HM.hide (Ms := [box b0 150 [p0_0, .int .i64 t684.2]])
    refine od rfl rfl rfl rfl (does_callk rfl callok53 rfl (spec_l1Pick.calls (x0 := (⟨x0.fCode, t684.2⟩ : l1Src)) (x1 := ([1, 0, 61] : List Int)) (hide_olds _ _) hF698 hFn699 hFl700 (HMh701.rdo hwo hp0_0) (HMh701.own_rd 0 rfl) h696)) ?_
    rintro _ w712 ⟨rfl, hn⟩
    replace HM : Mem w X w712 [box b0 150 [p0_0, .int .i64 t695.2], own kInt 2 v692 ([1, 0, 61] : List Int), own kInt 2 v681 ([0, 1000, 900] : List Int), own kMember 38 u662 t660.1] := hcl702 _ _ hn
    refine ox rfl rfl rfl rfl (ex_build (cells := #[(.int .i64 t695.1), (.int .i64 0)]) rfl rfl (by kernel_rfl)) ?_
    refine ox rfl rfl rfl rfl (ex_build (cells := #[(.int .i64 t684.1), (.int .i64 t695.1), (.int .i64 0)]) rfl rfl (by kernel_rfl)) ?_
    refine od rfl rfl rfl rfl (does_lit (e := 38) (cs := [.int .i64 t684.1, .int .i64 t695.1, .int .i64 0]) (xs := ([(⟨t684.1, (⟨t695.1, 0⟩ : Ref)⟩ : Member)] : List Member)) kMember rfl rfl (fun _ => by kernel_rfl) rfl rfl (fun _ _ h => by have h' : _ = [] := h; subst h'; exact (Elems.cons (d := kMember) (x := (⟨t684.1, (⟨t695.1, 0⟩ : Ref)⟩ : Member)) (f := []) ⟨rfl, rfl⟩ .nil)) HM.emp) ?_
    rintro v703 w713 HM
    replace HM := HM.front 4 rfl rfl
    refine od rfl rfl rfl rfl (does_appendR kMember flat_plain rfl rfl rfl Try.underlying24 tsz38 rfl tby38 tz38 rfl rfl (leB_le e706) (HM.own_rd 1 rfl) HM) ?_
    rintro v707 w714 HM
    refine ox rfl rfl rfl rfl (ex_assign rfl rfl) ?_
    refine ops_nil ?_
    refine at_block ?_
    refine at_then ?_
    refine run_seq ?_
    refine run_region rfl ?_
    refine ox rfl rfl rfl rfl (ex_move rfl rfl) ?_
    refine ox rfl rfl rfl rfl (ex_assign rfl rfl) ?_
    refine ops_nil (at_then ?_)
    refine run_ret ?_
    replace HM := (HM.front 1 rfl rfl).drop
    replace HM := (HM.front 2 rfl rfl).drop
    replace HM := (HM.front 2 rfl rfl).drop
    have hR := Option.some.inj H
    subst hR
    exact at_ret1 rfl rfl ⟨_, rfl, _, rfl, HM⟩
  · replace H := cond_f hb680 H
    refine run_seq ?_
    refine run_region rfl ?_
    refine ox rfl rfl rfl rfl (ex_eql rfl rfl rfl) ?_
    refine ox rfl rfl rfl rfl (ex_assign rfl rfl) ?_
    refine ops_nil (at_then ?_)
    refine run_cond (b := (t671.1 == 1)) rfl (fun hb715 => ?_) (fun hb715 => ?_)
    · replace H := cond_t hb715 H
      obtain ⟨e719, H⟩ := chk_some H
      obtain ⟨e720, H⟩ := chk_some H
      refine run_region rfl ?_
      refine od rfl rfl rfl rfl (does_make (x := (⟨0, (⟨0, 0⟩ : Ref)⟩ : Member)) kMember rfl rfl rfl Try.underlying24 tsz38 tby38 tz38 rfl rfl (fun _ => ⟨rfl, rfl⟩) (of_decide_eq_true e719) rfl (leB_le e720) rfl HM) ?_
      rintro v716 w721 HM
      refine ox rfl rfl rfl rfl (ex_assign rfl rfl) ?_
      refine ops_nil ?_
      refine at_block ?_
      refine at_then ?_
      refine run_seq ?_
      refine run_region rfl ?_
      refine ox rfl rfl rfl rfl (ex_move rfl rfl) ?_
      refine ox rfl rfl rfl rfl (ex_assign rfl rfl) ?_
      refine ops_nil (at_then ?_)
      refine run_ret ?_
      replace HM := (HM.front 2 rfl rfl).drop
      have hR := Option.some.inj H
      subst hR
      exact at_ret1 rfl rfl ⟨_, rfl, _, rfl, HM⟩
    · replace H := cond_f hb715 H
      refine run_seq ?_
      refine run_region rfl ?_
      refine ox rfl rfl rfl rfl (ex_eql rfl rfl rfl) ?_
      refine ox rfl rfl rfl rfl (ex_assign rfl rfl) ?_
      refine ops_nil (at_then ?_)
      refine run_cond (b := (t671.1 == 2)) rfl (fun hb722 => ?_) (fun hb722 => ?_)
      · replace H := cond_t hb722 H
        refine run_seq ?_
        refine run_region rfl ?_
        refine ox rfl rfl rfl rfl (ex_move rfl rfl) ?_
        refine ox rfl rfl rfl rfl (ex_len (d := kMember) (xs := t660.1) rfl rfl Try.underlying24 (HM.own_rd 1 rfl)) ?_
        refine ox rfl rfl rfl rfl (ex_gtr rfl rfl rfl) ?_
        refine ops_nil (at_then ?_)
        refine run_cond (b := (decide (1 < (t660.1.length : Int)))) rfl (fun hb723 => ?_) (fun hb723 => ?_)
        · replace H := cond_t hb723 H
          obtain ⟨e724, H⟩ := chk_some H
          obtain ⟨e725, H⟩ := chk_some H
          refine run_region rfl ?_
          refine ox rfl rfl rfl rfl (ex_move rfl rfl) ?_
          refine ox rfl rfl rfl rfl (ex_move rfl rfl) ?_
          refine ox rfl rfl rfl rfl (ex_indexAddr (d := kMember) rfl rfl rfl Try.underlying24 tsz38 (HM.own_rd 1 rfl) (idx_lo e724) (idx_hi e724)) ?_
          refine ox rfl rfl rfl rfl (ex_fieldAddr (off' := so u662 + ((0 : Int)).toNat * 3 + 1) rfl rfl Try.underlying38 rfl tsz36 rfl) ?_
          refine ox rfl rfl rfl rfl (ex_loadN (cs := [(.int .i64 ((gt t660.1 (0 : Int)).fRef.fTx)), (.int .i64 ((gt t660.1 (0 : Int)).fRef.fAt))]) rfl rfl Try.underlying36 rfl tsz36 rfl ((rd_plain (HM.own_rd 1 rfl) e724).sub 1 2 rfl)) ?_
          refine ox rfl rfl rfl rfl (ex_indexAddr (d := kMember) rfl rfl rfl Try.underlying24 tsz38 (HM.own_rd 1 rfl) (idx_lo e725) (idx_hi e725)) ?_
          refine ox rfl rfl rfl rfl (ex_fieldAddr (off' := so u662 + ((1 : Int)).toNat * 3 + 1) rfl rfl Try.underlying38 rfl tsz36 rfl) ?_
          replace HM := HM.front 1 rfl rfl
          refine odS rfl rfl rfl (does_setField (fo := 1) (vs := [(.int .i64 ((gt t660.1 (0 : Int)).fRef.fTx)), (.int .i64 ((gt t660.1 (0 : Int)).fRef.fAt))]) (y := (⟨(gt t660.1 (1 : Int)).fKey, (gt t660.1 (0 : Int)).fRef⟩ : Member)) kMember rfl rfl rfl rfl rfl tsz36 (Ones.int (Ones.int Ones.nil)) rfl rfl (idx_nat e725) (fun _ _ _ h => by rw [← gt_eq (idx_nat e725)] at h; obtain ⟨rfl, h2⟩ := h; exact ⟨rfl, h2⟩) HM) ?_
          rintro w726 HM
          refine ops_nil ?_
          refine at_block ?_
          refine at_then ?_
          refine run_seq ?_
          refine run_region rfl ?_
          refine ox rfl rfl rfl rfl (ex_move rfl rfl) ?_
          refine ox rfl rfl rfl rfl (ex_assign rfl rfl) ?_
          refine ops_nil (at_then ?_)
          refine run_ret ?_
          have hR := Option.some.inj H
          subst hR
          exact at_ret1 rfl rfl ⟨_, rfl, _, rfl, HM⟩
        · replace H := cond_f hb723 H
          refine run_skip ?_
          refine at_block ?_
          refine at_then ?_
          refine run_seq ?_
          refine run_region rfl ?_
          refine ox rfl rfl rfl rfl (ex_move rfl rfl) ?_
          refine ox rfl rfl rfl rfl (ex_assign rfl rfl) ?_
          refine ops_nil (at_then ?_)
          refine run_ret ?_
          replace HM := HM.front 1 rfl rfl
          have hR := Option.some.inj H
          subst hR
          exact at_ret1 rfl rfl ⟨_, rfl, _, rfl, HM⟩
      · replace H := cond_f hb722 H
        refine run_skip ?_
        refine at_block ?_
        refine at_then ?_
        refine run_seq ?_
        refine run_region rfl ?_
        refine ox rfl rfl rfl rfl (ex_move rfl rfl) ?_
        refine ox rfl rfl rfl rfl (ex_assign rfl rfl) ?_
        refine ops_nil (at_then ?_)
        refine run_ret ?_
        replace HM := HM.front 1 rfl rfl
        have hR := Option.some.inj H
        subst hR
        exact at_ret1 rfl rfl ⟨_, rfl, _, rfl, HM⟩
end Go.Proofs.Ytbbcabpnkdilgaa.Zk
