/- What functions of the program compute, each as a plain function, and that they do. Conditions: as each theorem states them. -/
import Derived.Test.YtbbcabpnkdilgaaTakeMembersZkF2
namespace Go.Proofs.Ytbbcabpnkdilgaa.Zk
open Go Go.RowKit Go.IntWalk Go.Proofs
set_option linter.unusedVariables false
set_option linter.unusedSimpArgs false
set_option maxRecDepth 100000
set_option maxHeartbeats 4000000
def spec_l6Take.l0 (x0 : List Member) (x1 : Tx) : Nat → (List Member) → Int → Option ((List Member))
  | 0, _, _ => none
  | k + 1, a2332, a2334 => (bif (decide (a2334 < (x0.length : Int))) then (chk (!(x1.fKind == 2) || (idxOk a2334 x0.length)) (chk (!(!((x1.fKind == 2) && (((gt x0 a2334).fKey) == x1.fMember))) || (idxOk a2334 x0.length)) ((bif !((x1.fKind == 2) && (((gt x0 a2334).fKey) == x1.fMember)) then spec_l3Among.f k x1.fIns ((gt x0 a2334).fRef) else some default).bind fun t2361 => (bif ((!((x1.fKind == 2) && (((gt x0 a2334).fKey) == x1.fMember))) && (!t2361)) then (chk (idxOk a2334 x0.length) (chk (leB ((a2332.length + ([(gt x0 a2334)] : List Member).length) * 24) 140737488355328) (spec_l6Take.l0 x0 x1 k (a2332 ++ ([(gt x0 a2334)] : List Member)) (wrap64 (a2334 + 1))))) else spec_l6Take.l0 x0 x1 k a2332 (wrap64 (a2334 + 1)))))) else some a2332)
theorem spec_l6Take.l0_z (x0 : List Member) (x1 : Tx) (a2332 : List Member) (a2334 : Int) : spec_l6Take.l0 x0 x1 0 a2332 a2334 = none := rfl
theorem spec_l6Take.l0_s (x0 : List Member) (x1 : Tx) (k : Nat) (a2332 : List Member) (a2334 : Int) : spec_l6Take.l0 x0 x1 (k + 1) a2332 a2334 = (bif (decide (a2334 < (x0.length : Int))) then (chk (!(x1.fKind == 2) || (idxOk a2334 x0.length)) (chk (!(!((x1.fKind == 2) && (((gt x0 a2334).fKey) == x1.fMember))) || (idxOk a2334 x0.length)) ((bif !((x1.fKind == 2) && (((gt x0 a2334).fKey) == x1.fMember)) then spec_l3Among.f k x1.fIns ((gt x0 a2334).fRef) else some default).bind fun t2361 => (bif ((!((x1.fKind == 2) && (((gt x0 a2334).fKey) == x1.fMember))) && (!t2361)) then (chk (idxOk a2334 x0.length) (chk (leB ((a2332.length + ([(gt x0 a2334)] : List Member).length) * 24) 140737488355328) (spec_l6Take.l0 x0 x1 k (a2332 ++ ([(gt x0 a2334)] : List Member)) (wrap64 (a2334 + 1))))) else spec_l6Take.l0 x0 x1 k a2332 (wrap64 (a2334 + 1)))))) else some a2332) := rfl
def spec_l6Take.f (k : Nat) (x0 : List Member) (x1 : Tx) (x2 : Int) : Option ((List Member) × Int) := ((bif (x1.fKind == 2) then spec_l6At.f k x0 x1.fMember else some default).bind fun t2246 => (bif ((x1.fKind == 2) && (decide (t2246 < 0))) then some (([] : List Member), 4) else ((spec_l6Take.l0 x0 x1 k ([] : List Member) 0).bind (fun a2311 => (bif (x1.fKind != 1) then some (a2311, 0) else ((spec_l6Join.f k a2311 (⟨x1.fMember, (⟨x2, 0⟩ : Ref)⟩ : Member)).bind fun t2381 => some (t2381.1, t2381.2)))))))
theorem spec_l6Take.calls {k : Nat} {x0 : List Member} {x1 : Tx} {x2 : Int} {p0 : Value} {b1 f1 : Nat} {p1_0 : Value} {p1_1 : Value} {w : World} (hp0 : RdS kMember w p0 x0) (hc1 : CellsAt w b1 f1 [.int .i64 x1.fKind, .int .i64 x1.fMember, p1_0, p1_1]) (hp1_0 : RdS kRef w p1_0 x1.fIns) (hp1_1 : RdS kOut w p1_1 x1.fOuts) {r : (List Member) × Int} (H : spec_l6Take.f k x0 x1 x2 = some r) :
    Calls Try.prog 59 ([p0, .pointer (some ⟨b1, f1, none⟩), .int .i64 x2] : List Value).toArray w (fun e w_ => ∃ v, e = .returned v ∧ ∃ u0 : Value, v = (.tuple #[u0, .int .i64 r.2]) ∧ Mem w [] w_ [own kMember 38 u0 r.1]) := by
  have HM := Mem.start w
  refine calls_run (N := 88) Try.func59 rfl rfl rfl rfl ?_
  unfold spec_l6Take.f at H
  refine run_seq ?_
  refine run_region rfl ?_
  refine ox rfl rfl rfl rfl (ex_assign rfl rfl) ?_
  refine ox rfl rfl rfl rfl (ex_assign rfl rfl) ?_
  refine ops_nil (at_then (run_seq ?_))
  refine run_seq ?_
  obtain ⟨t2246, h2247, H⟩ := bind_some H
  refine run_meet (fun ρ_ w_ => ρ_ = [(0, p0), (1, .pointer (some ⟨b1, f1, none⟩)), (2, .int .i64 x2), (24, .bool ((x1.fKind == 2) && (decide (t2246 < 0))))] ∧ Mem w [] w_ []) ?_ ?_
  · skip
    refine run_region rfl ?_
    refine ox rfl rfl rfl rfl (ex_move rfl rfl) ?_
    refine ox rfl rfl rfl rfl (ex_nilCheck rfl rfl) ?_
    refine ox rfl rfl rfl rfl (ex_fieldAddr (off' := f1) rfl rfl Try.underlying28 rfl tsz2 rfl) ?_
    refine ox rfl rfl rfl rfl (ex_load1 rfl rfl Try.underlying2 rfl ((HM.at_ hc1) 0 _ rfl)) ?_
    refine ox rfl rfl rfl rfl (ex_eql rfl rfl rfl) ?_
    refine ox rfl rfl rfl rfl (ex_move rfl rfl) ?_
    refine bool_cases (x1.fKind == 2) (fun hg2248 => ?_) (fun hg2248 => ?_)
    · skip
      refine ops_ex rfl (guard_on rfl rfl rfl hg2248) rfl rfl (ex_move rfl rfl) ?_
      refine ops_ex rfl (guard_on rfl rfl rfl hg2248) rfl rfl (ex_move rfl rfl) ?_
      refine ops_ex rfl (guard_on rfl rfl rfl hg2248) rfl rfl (ex_nilCheck rfl rfl) ?_
      refine ops_ex rfl (guard_on rfl rfl rfl hg2248) rfl rfl (ex_fieldAddr (off' := f1 + 1) rfl rfl Try.underlying28 rfl tsz2 rfl) ?_
      refine ops_ex rfl (guard_on rfl rfl rfl hg2248) rfl rfl (ex_load1 rfl rfl Try.underlying2 rfl ((HM.at_ hc1) 1 _ rfl)) ?_
      refine ops_does rfl (guard_on rfl rfl rfl hg2248) rfl rfl (does_callk rfl callok119 rfl (spec_l6At.calls (x0 := x0) (x1 := x1.fMember) (HM.rd hp0) (cond_t hg2248 h2247))) ?_
      rintro _ w2249 ⟨rfl, hn⟩
      replace HM : Mem w [] w2249 [] := HM.call hn
      refine ops_ex rfl (guard_on rfl rfl rfl hg2248) rfl rfl (ex_lss rfl rfl rfl) ?_
      refine ops_ex (v := .bool ((x1.fKind == 2) && (decide (t2246 < 0)))) rfl (guard_none rfl) rfl rfl (ex_pand_t rfl rfl hg2248 rfl) ?_
      refine ops_nil ?_
      exact at_meet [(0, p0), (1, .pointer (some ⟨b1, f1, none⟩)), (2, .int .i64 x2), (24, .bool ((x1.fKind == 2) && (decide (t2246 < 0))))] ⟨rfl, HM⟩ (Sub.cons rfl (Sub.cons rfl (Sub.cons rfl (Sub.cons rfl Sub.nil))))
    · skip
      refine ops_off rfl (guard_off rfl rfl rfl hg2248) rfl rfl ?_
      refine ops_off rfl (guard_off rfl rfl rfl hg2248) rfl rfl ?_
      refine ops_off rfl (guard_off rfl rfl rfl hg2248) rfl rfl ?_
      refine ops_off rfl (guard_off rfl rfl rfl hg2248) rfl rfl ?_
      refine ops_off rfl (guard_off rfl rfl rfl hg2248) rfl rfl ?_
      refine ops_off rfl (guard_off rfl rfl rfl hg2248) rfl rfl ?_
      refine ops_off rfl (guard_off rfl rfl rfl hg2248) rfl rfl ?_
      have hg2250 : ((x1.fKind == 2) && (decide (t2246 < 0))) = false := by simp only [hg2248, Bool.and_true, Bool.true_and, Bool.and_false, Bool.false_and, Bool.or_true, Bool.true_or, Bool.or_false, Bool.false_or, Bool.not_true, Bool.not_false, Bool.not_not]
      refine ops_ex (v := .bool ((x1.fKind == 2) && (decide (t2246 < 0)))) rfl (guard_none rfl) rfl rfl (ex_pand_f rfl rfl hg2248) ?_
      refine ops_nil ?_
      exact at_meet [(0, p0), (1, .pointer (some ⟨b1, f1, none⟩)), (2, .int .i64 x2), (24, .bool ((x1.fKind == 2) && (decide (t2246 < 0))))] ⟨rfl, HM⟩ (Sub.cons rfl (Sub.cons rfl (Sub.cons rfl (Sub.cons rfl Sub.nil))))
  · rintro _ w2251 ⟨rfl, HM⟩
    refine at_then ?_
    refine run_cond (b := ((x1.fKind == 2) && (decide (t2246 < 0)))) rfl (fun hb2252 => ?_) (fun hb2252 => ?_)
    · replace H := cond_t hb2252 H
      refine run_seq ?_
      refine run_region rfl ?_
      refine ox rfl rfl rfl rfl (ex_assign rfl rfl) ?_
      refine ox rfl rfl rfl rfl (ex_assign rfl rfl) ?_
      refine ops_nil (at_then ?_)
      refine run_ret ?_
      refine at_then_ret ?_
      replace HM := HM.empty kMember 38 none
      have hR := Option.some.inj H
      subst hR
      exact at_ret2 rfl rfl rfl ⟨_, rfl, _, rfl, HM⟩
    · replace H := cond_f hb2252 H
      refine run_skip ?_
      refine at_then ?_
      refine run_seq ?_
      refine run_region rfl ?_
      refine od rfl rfl rfl rfl (does_lit (e := 38) (cs := []) (xs := ([] : List Member)) kMember rfl rfl (fun _ => by kernel_rfl) rfl rfl (fun _ _ h => by have h' : _ = [] := h; subst h'; exact .nil) HM.emp) ?_
      rintro v2254 w2257 HM
      refine ox rfl rfl rfl rfl (ex_assign rfl rfl) ?_
      refine ops_nil (at_then ?_)
      obtain ⟨o2313, ho2314, H⟩ := bind_some H
      refine run_mid (fun ρ_ w_ => ∃ v2310 : Value, ∃ a2311 : List Member, a2311 = o2313 ∧ ρ_ = [(1, .pointer (some ⟨b1, f1, none⟩)), (2, .int .i64 x2), (8, v2310)] ∧ Mem w [] w_ [own kMember 38 v2310 a2311]) ?_ ?_
      · clear H
        refine run_seq ?_
        refine run_region rfl ?_
        refine ox rfl rfl rfl rfl (ex_assign rfl rfl) ?_
        refine ops_nil (at_then ?_)
        refine run_block ?_
        refine run_loop (fun k_ ρ_ w_ => ∃ v2331 : Value, ∃ a2332 : List Member, ∃ a2334 : Int, spec_l6Take.l0 x0 x1 k_ a2332 a2334 = some o2313 ∧ ρ_ = [(0, p0), (1, .pointer (some ⟨b1, f1, none⟩)), (2, .int .i64 x2), (8, v2331), (9, .int .i64 a2334)] ∧ Mem w [] w_ [own kMember 38 v2331 a2332]) k (ρ1 := [(0, p0), (1, .pointer (some ⟨b1, f1, none⟩)), (2, .int .i64 x2), (8, v2254), (9, .int .i64 0)]) ⟨_, _, _, ho2314, rfl, HM⟩ (Sub.cons rfl (Sub.cons rfl (Sub.cons rfl (Sub.cons rfl (Sub.cons rfl Sub.nil))))) ?_
        clear HM ho2314
        rintro k2351 _ w2352 ⟨v2331, a2332, a2334, ho2314, rfl, HM⟩
        obtain _ | k2351 := k2351
        · exact nomatch ((spec_l6Take.l0_z x0 x1 a2332 a2334).symm.trans ho2314)
        replace ho2314 := (spec_l6Take.l0_s x0 x1 k2351 a2332 a2334).symm.trans ho2314
        refine run_seq ?_
        refine run_seq ?_
        refine run_region rfl ?_
        refine ox rfl rfl rfl rfl (ex_move rfl rfl) ?_
        refine ox rfl rfl rfl rfl (ex_move rfl rfl) ?_
        refine ox rfl rfl rfl rfl (ex_len (d := kMember) (xs := x0) rfl rfl Try.underlying24 hp0) ?_
        refine ox rfl rfl rfl rfl (ex_lss rfl rfl rfl) ?_
        refine ops_nil (at_then ?_)
        refine run_cond (b := (decide (a2334 < (x0.length : Int)))) rfl (fun hb2353 => ?_) (fun hb2353 => ?_)
        · replace ho2314 := cond_t hb2353 ho2314
          refine run_skip ?_
          refine at_then ?_
          refine run_seq ?_
          refine run_block ?_
          refine run_seq ?_
          obtain ⟨e2354, ho2314⟩ := chk_some ho2314
          refine run_meet (fun ρ_ w_ => ρ_ = [(0, p0), (1, .pointer (some ⟨b1, f1, none⟩)), (2, .int .i64 x2), (8, v2331), (9, .int .i64 a2334), (10, .bool ((x1.fKind == 2) && (((gt x0 a2334).fKey) == x1.fMember)))] ∧ Mem w [] w_ [own kMember 38 v2331 a2332]) ?_ ?_
          · skip
            refine run_drawf (fun w_ => Mem w [] w_ [own kMember 38 v2331 a2332]) [(0, true), (1, true), (2, true), (3, true), (4, true), (5, true), (6, true), (7, true), (8, true), (9, true), (10, true), (11, true), (12, true), (13, true), (14, true), (15, true), (16, true), (17, true)] mixed rfl rfl (by kernel_rfl) ?_
            replace HM := HM.grow (fr_drew _)
            have hS := Mem.suf (M := []) HM
            refine dp rfl rfl rfl rfl (ex_move rfl rfl) hS ?_
            refine dp rfl rfl rfl rfl (ex_nilCheck rfl rfl) hS ?_
            refine dp rfl rfl rfl rfl (ex_fieldAddr (off' := f1) rfl rfl Try.underlying28 rfl tsz2 rfl) hS ?_
            refine drwp_take rfl (guard_none rfl) rfl rfl (fun w_ hS_ => (ex_load1 rfl rfl Try.underlying2 rfl ((hS_.at_ hc1) 0 _ rfl))) hS ?_
            refine dp rfl rfl rfl rfl (ex_eql rfl rfl rfl) hS ?_
            refine dp rfl rfl rfl rfl (ex_move rfl rfl) hS ?_
            refine bool_cases (x1.fKind == 2) (fun hg2356 => ?_) (fun hg2356 => ?_)
            · skip
              refine drwp_take rfl (guard_on rfl rfl rfl hg2356) rfl rfl (fun w_ hS_ => (ex_move rfl rfl)) hS ?_
              refine drwp_take rfl (guard_on rfl rfl rfl hg2356) rfl rfl (fun w_ hS_ => (ex_move rfl rfl)) hS ?_
              have hc2355 : CellsAt _ (sb p0) (so p0 + (a2334).toNat * 3) [(.int .i64 ((gt x0 a2334).fKey)), (.int .i64 ((gt x0 a2334).fRef.fTx)), (.int .i64 ((gt x0 a2334).fRef.fAt))] := rd_plain hp0 (or_t e2354 hg2356)
              refine drwp_take rfl (guard_on rfl rfl rfl hg2356) rfl rfl (fun w_ hS_ => (ex_indexAddr (d := kMember) rfl rfl rfl Try.underlying24 tsz38 hp0 (idx_lo (or_t e2354 hg2356)) (idx_hi (or_t e2354 hg2356)))) hS ?_
              refine drwp_take rfl (guard_on rfl rfl rfl hg2356) rfl rfl (fun w_ hS_ => (ex_fieldAddr (off' := so p0 + (a2334).toNat * 3) rfl rfl Try.underlying38 rfl tsz2 rfl)) hS ?_
              refine drwp_take rfl (guard_on rfl rfl rfl hg2356) rfl rfl (fun w_ hS_ => (ex_load1 rfl rfl Try.underlying2 rfl ((hS_.at_ hc2355) 0 _ rfl))) hS ?_
              refine drwp_take rfl (guard_on rfl rfl rfl hg2356) rfl rfl (fun w_ hS_ => (ex_move rfl rfl)) hS ?_
              refine drwp_take rfl (guard_on rfl rfl rfl hg2356) rfl rfl (fun w_ hS_ => (ex_nilCheck rfl rfl)) hS ?_
              refine drwp_take rfl (guard_on rfl rfl rfl hg2356) rfl rfl (fun w_ hS_ => (ex_fieldAddr (off' := f1 + 1) rfl rfl Try.underlying28 rfl tsz2 rfl)) hS ?_
              refine drwp_take rfl (guard_on rfl rfl rfl hg2356) rfl rfl (fun w_ hS_ => (ex_load1 rfl rfl Try.underlying2 rfl ((hS_.at_ hc1) 1 _ rfl))) hS ?_
              refine drwp_take rfl (guard_on rfl rfl rfl hg2356) rfl rfl (fun w_ hS_ => (ex_eql rfl rfl rfl)) hS ?_
              refine drwp_take (v := .bool ((x1.fKind == 2) && (((gt x0 a2334).fKey) == x1.fMember))) rfl (guard_none rfl) rfl rfl (fun w_ hS_ => (ex_pand_t rfl rfl hg2356 rfl)) hS ?_
              refine dp rfl rfl rfl rfl (ex_assign rfl rfl) hS ?_
              refine drwp_done ?_
              exact at_meet [(0, p0), (1, .pointer (some ⟨b1, f1, none⟩)), (2, .int .i64 x2), (8, v2331), (9, .int .i64 a2334), (10, .bool ((x1.fKind == 2) && (((gt x0 a2334).fKey) == x1.fMember)))] ⟨rfl, HM⟩ (Sub.cons rfl (Sub.cons rfl (Sub.cons rfl (Sub.cons rfl (Sub.cons rfl (Sub.cons rfl Sub.nil))))))
            · skip
              refine drwp_off rfl (guard_off rfl rfl rfl hg2356) rfl rfl hS ?_
              refine drwp_off rfl (guard_off rfl rfl rfl hg2356) rfl rfl hS ?_
              refine drwp_off rfl (guard_off rfl rfl rfl hg2356) rfl rfl hS ?_
              refine drwp_off rfl (guard_off rfl rfl rfl hg2356) rfl rfl hS ?_
              refine drwp_off rfl (guard_off rfl rfl rfl hg2356) rfl rfl hS ?_
              refine drwp_off rfl (guard_off rfl rfl rfl hg2356) rfl rfl hS ?_
              refine drwp_off rfl (guard_off rfl rfl rfl hg2356) rfl rfl hS ?_
              refine drwp_off rfl (guard_off rfl rfl rfl hg2356) rfl rfl hS ?_
              refine drwp_off rfl (guard_off rfl rfl rfl hg2356) rfl rfl hS ?_
              refine drwp_off rfl (guard_off rfl rfl rfl hg2356) rfl rfl hS ?_
              have hg2357 : ((x1.fKind == 2) && (((gt x0 a2334).fKey) == x1.fMember)) = false := by simp only [hg2356, Bool.and_true, Bool.true_and, Bool.and_false, Bool.false_and, Bool.or_true, Bool.true_or, Bool.or_false, Bool.false_or, Bool.not_true, Bool.not_false, Bool.not_not]
              refine drwp_take (v := .bool ((x1.fKind == 2) && (((gt x0 a2334).fKey) == x1.fMember))) rfl (guard_none rfl) rfl rfl (fun w_ hS_ => (ex_pand_f rfl rfl hg2356)) hS ?_
              refine dp rfl rfl rfl rfl (ex_assign rfl rfl) hS ?_
              refine drwp_done ?_
              exact at_meet [(0, p0), (1, .pointer (some ⟨b1, f1, none⟩)), (2, .int .i64 x2), (8, v2331), (9, .int .i64 a2334), (10, .bool ((x1.fKind == 2) && (((gt x0 a2334).fKey) == x1.fMember)))] ⟨rfl, HM⟩ (Sub.cons rfl (Sub.cons rfl (Sub.cons rfl (Sub.cons rfl (Sub.cons rfl (Sub.cons rfl Sub.nil))))))
          · rintro _ w2358 ⟨rfl, HM⟩
            refine at_then ?_
            refine run_seq ?_
            obtain ⟨e2359, ho2314⟩ := chk_some ho2314
            obtain ⟨t2361, h2362, ho2314⟩ := bind_some ho2314
            refine run_meet (fun ρ_ w_ => ρ_ = [(0, p0), (1, .pointer (some ⟨b1, f1, none⟩)), (2, .int .i64 x2), (8, v2331), (9, .int .i64 a2334), (63, .bool ((!((x1.fKind == 2) && (((gt x0 a2334).fKey) == x1.fMember))) && (!t2361)))] ∧ Mem w [] w_ [own kMember 38 v2331 a2332]) ?_ ?_
            · skip
              refine run_drawf (fun w_ => Mem w [] w_ [own kMember 38 v2331 a2332]) [(0, true), (1, true), (2, true), (3, true), (4, true), (5, true), (6, true), (7, true), (8, true), (9, true), (10, true), (11, true), (12, false), (13, true), (14, true)] mixed rfl rfl (by kernel_rfl) ?_
              replace HM := HM.grow (fr_drew _)
              have hS := Mem.suf (M := []) HM
              refine dp rfl rfl rfl rfl (ex_move rfl rfl) hS ?_
              refine dp rfl rfl rfl rfl (ex_not rfl rfl) hS ?_
              refine dp rfl rfl rfl rfl (ex_move rfl rfl) hS ?_
              refine bool_cases (!((x1.fKind == 2) && (((gt x0 a2334).fKey) == x1.fMember))) (fun hg2363 => ?_) (fun hg2363 => ?_)
              · skip
                refine drwp_take rfl (guard_on rfl rfl rfl hg2363) rfl rfl (fun w_ hS_ => (ex_move rfl rfl)) hS ?_
                refine drwp_take rfl (guard_on rfl rfl rfl hg2363) rfl rfl (fun w_ hS_ => (ex_nilCheck rfl rfl)) hS ?_
                refine drwp_take rfl (guard_on rfl rfl rfl hg2363) rfl rfl (fun w_ hS_ => (ex_fieldAddr (off' := f1 + 2) rfl rfl Try.underlying28 rfl tsz25 rfl)) hS ?_
                refine drwp_take rfl (guard_on rfl rfl rfl hg2363) rfl rfl (fun w_ hS_ => (ex_load1 rfl rfl Try.underlying25 rfl ((hS_.at_ hc1) 2 _ rfl))) hS ?_
                refine drwp_take rfl (guard_on rfl rfl rfl hg2363) rfl rfl (fun w_ hS_ => (ex_move rfl rfl)) hS ?_
                refine drwp_take rfl (guard_on rfl rfl rfl hg2363) rfl rfl (fun w_ hS_ => (ex_move rfl rfl)) hS ?_
                have hc2360 : CellsAt _ (sb p0) (so p0 + (a2334).toNat * 3) [(.int .i64 ((gt x0 a2334).fKey)), (.int .i64 ((gt x0 a2334).fRef.fTx)), (.int .i64 ((gt x0 a2334).fRef.fAt))] := rd_plain hp0 (or_t e2359 hg2363)
                refine drwp_take rfl (guard_on rfl rfl rfl hg2363) rfl rfl (fun w_ hS_ => (ex_indexAddr (d := kMember) rfl rfl rfl Try.underlying24 tsz38 hp0 (idx_lo (or_t e2359 hg2363)) (idx_hi (or_t e2359 hg2363)))) hS ?_
                refine drwp_take rfl (guard_on rfl rfl rfl hg2363) rfl rfl (fun w_ hS_ => (ex_fieldAddr (off' := so p0 + (a2334).toNat * 3 + 1) rfl rfl Try.underlying38 rfl tsz36 rfl)) hS ?_
                refine drwp_take rfl (guard_on rfl rfl rfl hg2363) rfl rfl (fun w_ hS_ => (ex_loadN (cs := [(.int .i64 ((gt x0 a2334).fRef.fTx)), (.int .i64 ((gt x0 a2334).fRef.fAt))]) rfl rfl Try.underlying36 rfl tsz36 rfl ((hS_.at_ hc2360).sub 1 2 rfl))) hS ?_
                refine drwp_one rfl (guard_on rfl rfl rfl hg2363) rfl rfl (does_callk rfl callok104 rfl (spec_l3Among.calls (x0 := x1.fIns) (x1 := (gt x0 a2334).fRef) (HM.rd hp1_0) (cond_t hg2363 h2362))) ?_
                rintro _ w2364 ⟨rfl, hn⟩
                replace HM : Mem w [] w2364 [own kMember 38 v2331 a2332] := HM.call hn
                have hS := Mem.suf (M := []) HM
                refine ⟨hS, ?_⟩
                refine drwp_take rfl (guard_on rfl rfl rfl hg2363) rfl rfl (fun w_ hS_ => (ex_not rfl rfl)) hS ?_
                refine drwp_take (v := .bool ((!((x1.fKind == 2) && (((gt x0 a2334).fKey) == x1.fMember))) && (!t2361))) rfl (guard_none rfl) rfl rfl (fun w_ hS_ => (ex_pand_t rfl rfl hg2363 rfl)) hS ?_
                refine drwp_done ?_
                exact at_meet [(0, p0), (1, .pointer (some ⟨b1, f1, none⟩)), (2, .int .i64 x2), (8, v2331), (9, .int .i64 a2334), (63, .bool ((!((x1.fKind == 2) && (((gt x0 a2334).fKey) == x1.fMember))) && (!t2361)))] ⟨rfl, HM⟩ (Sub.cons rfl (Sub.cons rfl (Sub.cons rfl (Sub.cons rfl (Sub.cons rfl (Sub.cons rfl Sub.nil))))))
              · skip
                refine drwp_off rfl (guard_off rfl rfl rfl hg2363) rfl rfl hS ?_
                refine drwp_off rfl (guard_off rfl rfl rfl hg2363) rfl rfl hS ?_
                refine drwp_off rfl (guard_off rfl rfl rfl hg2363) rfl rfl hS ?_
                refine drwp_off rfl (guard_off rfl rfl rfl hg2363) rfl rfl hS ?_
                refine drwp_off rfl (guard_off rfl rfl rfl hg2363) rfl rfl hS ?_
                refine drwp_off rfl (guard_off rfl rfl rfl hg2363) rfl rfl hS ?_
                refine drwp_off rfl (guard_off rfl rfl rfl hg2363) rfl rfl hS ?_
                refine drwp_off rfl (guard_off rfl rfl rfl hg2363) rfl rfl hS ?_
                refine drwp_off rfl (guard_off rfl rfl rfl hg2363) rfl rfl hS ?_
                refine drwp_off1 rfl (guard_off rfl rfl rfl hg2363) rfl rfl ⟨hS, ?_⟩
                refine drwp_off rfl (guard_off rfl rfl rfl hg2363) rfl rfl hS ?_
                have hg2365 : ((!((x1.fKind == 2) && (((gt x0 a2334).fKey) == x1.fMember))) && (!t2361)) = false := by simp only [hg2363, Bool.and_true, Bool.true_and, Bool.and_false, Bool.false_and, Bool.or_true, Bool.true_or, Bool.or_false, Bool.false_or, Bool.not_true, Bool.not_false, Bool.not_not]
                refine drwp_take (v := .bool ((!((x1.fKind == 2) && (((gt x0 a2334).fKey) == x1.fMember))) && (!t2361))) rfl (guard_none rfl) rfl rfl (fun w_ hS_ => (ex_pand_f rfl rfl hg2363)) hS ?_
                refine drwp_done ?_
                exact at_meet [(0, p0), (1, .pointer (some ⟨b1, f1, none⟩)), (2, .int .i64 x2), (8, v2331), (9, .int .i64 a2334), (63, .bool ((!((x1.fKind == 2) && (((gt x0 a2334).fKey) == x1.fMember))) && (!t2361)))] ⟨rfl, HM⟩ (Sub.cons rfl (Sub.cons rfl (Sub.cons rfl (Sub.cons rfl (Sub.cons rfl (Sub.cons rfl Sub.nil))))))
            · rintro _ w2366 ⟨rfl, HM⟩
              refine at_then ?_
              refine run_cond (b := ((!((x1.fKind == 2) && (((gt x0 a2334).fKey) == x1.fMember))) && (!t2361))) rfl (fun hb2367 => ?_) (fun hb2367 => ?_)
              · replace ho2314 := cond_t hb2367 ho2314
                obtain ⟨e2368, ho2314⟩ := chk_some ho2314
                obtain ⟨e2373, ho2314⟩ := chk_some ho2314
                refine run_region rfl ?_
                refine ox rfl rfl rfl rfl (ex_move rfl rfl) ?_
                refine ox rfl rfl rfl rfl (ex_move rfl rfl) ?_
                refine ox rfl rfl rfl rfl (ex_move rfl rfl) ?_
                have hc2369 : CellsAt _ (sb p0) (so p0 + (a2334).toNat * 3) [(.int .i64 ((gt x0 a2334).fKey)), (.int .i64 ((gt x0 a2334).fRef.fTx)), (.int .i64 ((gt x0 a2334).fRef.fAt))] := rd_plain hp0 e2368
                refine ox rfl rfl rfl rfl (ex_indexAddr (d := kMember) rfl rfl rfl Try.underlying24 tsz38 hp0 (idx_lo e2368) (idx_hi e2368)) ?_
                refine ox rfl rfl rfl rfl (ex_loadN (cs := [(.int .i64 ((gt x0 a2334).fKey)), (.int .i64 ((gt x0 a2334).fRef.fTx)), (.int .i64 ((gt x0 a2334).fRef.fAt))]) rfl rfl Try.underlying38 rfl tsz38 rfl ((HM.at_ hc2369).sub 0 3 rfl)) ?_
                refine od rfl rfl rfl rfl (does_lit (e := 38) (cs := [.int .i64 ((gt x0 a2334).fKey), .int .i64 ((gt x0 a2334).fRef.fTx), .int .i64 ((gt x0 a2334).fRef.fAt)]) (xs := ([(gt x0 a2334)] : List Member)) kMember rfl rfl (fun _ => by kernel_rfl) rfl rfl (fun _ _ h => by have h' : _ = [] := h; subst h'; exact (Elems.cons (d := kMember) (x := (gt x0 a2334)) (f := []) ⟨rfl, rfl⟩ .nil)) HM.emp) ?_
                rintro v2370 w2376 HM
                replace HM := HM.front 1 rfl rfl
                refine od rfl rfl rfl rfl (does_appendR kMember flat_plain rfl rfl rfl Try.underlying24 tsz38 rfl tby38 tz38 rfl rfl (leB_le e2373) (HM.own_rd 1 rfl) HM) ?_
                rintro v2374 w2377 HM
                refine ox rfl rfl rfl rfl (ex_assign rfl rfl) ?_
                refine ops_nil ?_
                refine at_block ?_
                refine at_then ?_
                refine run_region rfl ?_
                refine ox rfl rfl rfl rfl (ex_move rfl rfl) ?_
                refine ox rfl rfl rfl rfl (ex_add rfl rfl rfl) ?_
                refine ox rfl rfl rfl rfl (ex_assign rfl rfl) ?_
                refine ops_nil ?_
                replace HM := (HM.front 1 rfl rfl).drop
                exact at_again k2351 (ρ1 := [(0, p0), (1, .pointer (some ⟨b1, f1, none⟩)), (2, .int .i64 x2), (8, v2374), (9, .int .i64 (wrap64 (a2334 + 1)))]) (Nat.lt_succ_self _) ⟨_, _, _, ho2314, rfl, HM⟩ (Sub.cons rfl (Sub.cons rfl (Sub.cons rfl (Sub.cons rfl (Sub.cons rfl Sub.nil)))))
              · replace ho2314 := cond_f hb2367 ho2314
                refine run_skip ?_
                refine at_block ?_
                refine at_then ?_
                refine run_region rfl ?_
                refine ox rfl rfl rfl rfl (ex_move rfl rfl) ?_
                refine ox rfl rfl rfl rfl (ex_add rfl rfl rfl) ?_
                refine ox rfl rfl rfl rfl (ex_assign rfl rfl) ?_
                refine ops_nil ?_
                exact at_again k2351 (ρ1 := [(0, p0), (1, .pointer (some ⟨b1, f1, none⟩)), (2, .int .i64 x2), (8, v2331), (9, .int .i64 (wrap64 (a2334 + 1)))]) (Nat.lt_succ_self _) ⟨_, _, _, ho2314, rfl, HM⟩ (Sub.cons rfl (Sub.cons rfl (Sub.cons rfl (Sub.cons rfl (Sub.cons rfl Sub.nil)))))
        · replace ho2314 := cond_f hb2353 ho2314
          refine run_exit ?_
          refine at_then_exit ?_
          refine at_then_exit ?_
          refine at_block_exit ?_
          exact at_mid (ρ' := [(1, .pointer (some ⟨b1, f1, none⟩)), (2, .int .i64 x2), (8, v2331)]) ⟨_, _, (Option.some.inj ho2314), rfl, HM⟩ (Sub.cons rfl (Sub.cons rfl (Sub.cons rfl Sub.nil)))
      · rintro _ w2378 ⟨v2310, a2311, rfl, rfl, HM⟩
        refine run_seq ?_
        refine run_seq ?_
        refine run_region rfl ?_
        refine ox rfl rfl rfl rfl (ex_move rfl rfl) ?_
        refine ox rfl rfl rfl rfl (ex_nilCheck rfl rfl) ?_
        refine ox rfl rfl rfl rfl (ex_fieldAddr (off' := f1) rfl rfl Try.underlying28 rfl tsz2 rfl) ?_
        refine ox rfl rfl rfl rfl (ex_load1 rfl rfl Try.underlying2 rfl ((HM.at_ hc1) 0 _ rfl)) ?_
        refine ox rfl rfl rfl rfl (ex_neq rfl rfl rfl) ?_
        refine ops_nil (at_then ?_)
        refine run_cond (b := (x1.fKind != 1)) rfl (fun hb2380 => ?_) (fun hb2380 => ?_)
        · replace H := cond_t hb2380 H
          refine run_seq ?_
          refine run_region rfl ?_
          refine ox rfl rfl rfl rfl (ex_move rfl rfl) ?_
          refine ox rfl rfl rfl rfl (ex_assign rfl rfl) ?_
          refine ox rfl rfl rfl rfl (ex_assign rfl rfl) ?_
          refine ops_nil (at_then ?_)
          refine run_ret ?_
          refine at_then_ret ?_
          have hR := Option.some.inj H
          subst hR
          exact at_ret2 rfl rfl rfl ⟨_, rfl, _, rfl, HM⟩
        · replace H := cond_f hb2380 H
          refine run_skip ?_
          refine at_then ?_
          refine run_seq ?_
          obtain ⟨t2381, h2382, H⟩ := bind_some H
          refine run_region rfl ?_
          refine ox rfl rfl rfl rfl (ex_move rfl rfl) ?_
          refine ox rfl rfl rfl rfl (ex_move rfl rfl) ?_
          refine ox rfl rfl rfl rfl (ex_nilCheck rfl rfl) ?_
          refine ox rfl rfl rfl rfl (ex_fieldAddr (off' := f1 + 1) rfl rfl Try.underlying28 rfl tsz2 rfl) ?_
          refine ox rfl rfl rfl rfl (ex_load1 rfl rfl Try.underlying2 rfl ((HM.at_ hc1) 1 _ rfl)) ?_
          refine ox rfl rfl rfl rfl (ex_move rfl rfl) ?_
          refine ox rfl rfl rfl rfl (ex_build (cells := #[(.int .i64 x2), (.int .i64 0)]) rfl rfl (by kernel_rfl)) ?_
          refine ox rfl rfl rfl rfl (ex_build (cells := #[(.int .i64 x1.fMember), (.int .i64 x2), (.int .i64 0)]) rfl rfl (by kernel_rfl)) ?_
          refine od rfl rfl rfl rfl (does_callk rfl callok120 rfl (spec_l6Join.calls (x0 := a2311) (x1 := (⟨x1.fMember, (⟨x2, 0⟩ : Ref)⟩ : Member)) (HM.own_rd 0 rfl) h2382)) ?_
          rintro _ w2385 ⟨u2383, rfl, hn⟩
          replace HM : Mem w [] w2385 [own kMember 38 u2383 t2381.1, own kMember 38 v2310 a2311] := HM.call hn
          refine ox rfl rfl rfl rfl (ex_extract rfl rfl rfl) ?_
          refine ox rfl rfl rfl rfl (ex_extract rfl rfl rfl) ?_
          refine ox rfl rfl rfl rfl (ex_assign rfl rfl) ?_
          refine ox rfl rfl rfl rfl (ex_assign rfl rfl) ?_
          refine ops_nil (at_then ?_)
          refine run_ret ?_
          replace HM := (HM.front 1 rfl rfl).drop
          have hR := Option.some.inj H
          subst hR
          exact at_ret2 rfl rfl rfl ⟨_, rfl, _, rfl, HM⟩

def spec_TakeMembers.f (k : Nat) (x0 : List Member) (x1 : Tx) (x2 : Int) : Option MembersResult := ((spec_l6Fault.f k x0).bind fun t2402 => (bif (t2402 != 0) then some (⟨t2402, ([] : List Member)⟩ : MembersResult) else ((spec_l3Fault.f k x1).bind fun t2411 => (bif (t2411 != 0) then some (⟨t2411, ([] : List Member)⟩ : MembersResult) else ((spec_l1In.f k x2 1 60).bind fun t2420 => (bif !t2420 then some (⟨3, ([] : List Member)⟩ : MembersResult) else ((spec_l6Take.f k x0 x1 x2).bind fun t2426 => (bif (t2426.2 != 0) then some (⟨t2426.2, ([] : List Member)⟩ : MembersResult) else some (⟨0, t2426.1⟩ : MembersResult)))))))))
theorem spec_TakeMembers.calls {k : Nat} {x0 : List Member} {x1 : Tx} {x2 : Int} {p0 : Value} {p1_0 : Value} {p1_1 : Value} {w : World} (hp0 : RdS kMember w p0 x0) (hp1_0 : RdS kRef w p1_0 x1.fIns) (hp1_1 : RdS kOut w p1_1 x1.fOuts) {r : MembersResult} (H : spec_TakeMembers.f k x0 x1 x2 = some r) :
    Calls Try.prog 10 ([p0, .agg #[(.int .i64 x1.fKind), (.int .i64 x1.fMember), p1_0, p1_1], .int .i64 x2] : List Value).toArray w (fun e w_ => ∃ v, e = .returned v ∧ ∃ u0 : Value, v = (.agg #[.int .i64 r.fCode, u0]) ∧ Mem w [] w_ [own kMember 38 u0 r.fMembers]) := by
  have HM := Mem.start w
  refine calls_run (N := 38) Try.func10 rfl rfl rfl rfl ?_
  unfold spec_TakeMembers.f at H
  refine run_seq ?_
  refine run_region rfl ?_
  refine od rfl rfl rfl rfl (does_box (cs := [.int .i64 x1.fKind, .int .i64 x1.fMember, p1_0, p1_1]) rfl rfl rfl HM) ?_
  rintro _ w2397 ⟨b2391, rfl, HM⟩
  refine od rfl rfl rfl rfl (does_alloc (cs := [.int .i64 0, .slice none 0 0]) rfl tz32 rfl HM) ?_
  rintro _ w2398 ⟨b2394, rfl, HM⟩
  refine ops_nil (at_then (run_seq ?_))
  refine run_seq ?_
  obtain ⟨t2402, h2403, H⟩ := bind_some H
  refine run_region rfl ?_
  refine ox rfl rfl rfl rfl (ex_move rfl rfl) ?_
  refine od rfl rfl rfl rfl (does_callk rfl callok56 rfl (spec_l6Fault.calls (x0 := x0) (HM.rd hp0) h2403)) ?_
  rintro _ w2404 ⟨rfl, hn⟩
  replace HM : Mem w [] w2404 [box b2394 32 [.int .i64 0, .slice none 0 0], box b2391 28 [.int .i64 x1.fKind, .int .i64 x1.fMember, p1_0, p1_1]] := HM.call hn
  refine ox rfl rfl rfl rfl (ex_assign rfl rfl) ?_
  refine ops_nil (at_then (run_seq ?_))
  refine run_region rfl ?_
  refine ox rfl rfl rfl rfl (ex_move rfl rfl) ?_
  refine ox rfl rfl rfl rfl (ex_neq rfl rfl rfl) ?_
  refine ops_nil (at_then ?_)
  refine run_cond (b := (t2402 != 0)) rfl (fun hb2405 => ?_) (fun hb2405 => ?_)
  · replace H := cond_t hb2405 H
    refine run_seq ?_
    refine run_region rfl ?_
    refine ox rfl rfl rfl rfl (ex_move rfl rfl) ?_
    refine ox rfl rfl rfl rfl (ex_build (cells := #[(.int .i64 t2402), (.slice none 0 0)]) rfl rfl (by kernel_rfl)) ?_
    refine odS rfl rfl rfl (does_store (vs := [.int .i64 t2402, .slice none 0 0]) (cs' := [.int .i64 t2402, .slice none 0 0]) rfl rfl rfl rfl tsz32 (Ones.int (Ones.sl Ones.nil)) rfl rfl HM) ?_
    rintro w2406 HM
    refine ops_nil (at_then ?_)
    refine run_ret ?_
    refine at_then_ret ?_
    replace HM := HM.empty kMember 38 none
    replace HM := (HM.front 2 rfl rfl).drop
    replace HM := HM.front 1 rfl rfl
    have hcb0 := HM.box_at 0 rfl
    replace HM := (HM.front 0 rfl rfl).drop
    have hR := Option.some.inj H
    subst hR
    exact at_retN rfl rfl Try.underlying32 rfl tsz32 rfl hcb0 ⟨_, rfl, _, rfl, HM⟩
  · replace H := cond_f hb2405 H
    refine run_skip ?_
    refine at_then ?_
    refine run_seq ?_
    refine run_seq ?_
    obtain ⟨t2411, h2412, H⟩ := bind_some H
    refine run_region rfl ?_
    refine od rfl rfl rfl rfl (does_callk rfl callok57 rfl (spec_l3Fault.calls (x0 := x1) (HM.box_at 1 rfl) (HM.rd hp1_0) (HM.rd hp1_1) h2412)) ?_
    rintro _ w2413 ⟨rfl, hn⟩
    replace HM : Mem w [] w2413 [box b2394 32 [.int .i64 0, .slice none 0 0], box b2391 28 [.int .i64 x1.fKind, .int .i64 x1.fMember, p1_0, p1_1]] := HM.call hn
    refine ox rfl rfl rfl rfl (ex_assign rfl rfl) ?_
    refine ops_nil (at_then (run_seq ?_))
    refine run_region rfl ?_
    refine ox rfl rfl rfl rfl (ex_move rfl rfl) ?_
    refine ox rfl rfl rfl rfl (ex_neq rfl rfl rfl) ?_
    refine ops_nil (at_then ?_)
    refine run_cond (b := (t2411 != 0)) rfl (fun hb2414 => ?_) (fun hb2414 => ?_)
    · replace H := cond_t hb2414 H
      refine run_seq ?_
      refine run_region rfl ?_
      refine ox rfl rfl rfl rfl (ex_move rfl rfl) ?_
      refine ox rfl rfl rfl rfl (ex_build (cells := #[(.int .i64 t2411), (.slice none 0 0)]) rfl rfl (by kernel_rfl)) ?_
      refine odS rfl rfl rfl (does_store (vs := [.int .i64 t2411, .slice none 0 0]) (cs' := [.int .i64 t2411, .slice none 0 0]) rfl rfl rfl rfl tsz32 (Ones.int (Ones.sl Ones.nil)) rfl rfl HM) ?_
      rintro w2415 HM
      refine ops_nil (at_then ?_)
      refine run_ret ?_
      refine at_then_ret ?_
      replace HM := HM.empty kMember 38 none
      replace HM := (HM.front 2 rfl rfl).drop
      replace HM := HM.front 1 rfl rfl
      have hcb0 := HM.box_at 0 rfl
      replace HM := (HM.front 0 rfl rfl).drop
      have hR := Option.some.inj H
      subst hR
      exact at_retN rfl rfl Try.underlying32 rfl tsz32 rfl hcb0 ⟨_, rfl, _, rfl, HM⟩
    · replace H := cond_f hb2414 H
      refine run_skip ?_
      refine at_then ?_
      refine run_seq ?_
      refine run_seq ?_
      obtain ⟨t2420, h2421, H⟩ := bind_some H
      refine run_region rfl ?_
      refine ox rfl rfl rfl rfl (ex_move rfl rfl) ?_
      refine od rfl rfl rfl rfl (does_callk rfl callok58 rfl (spec_l1In.calls (x0 := x2) (x1 := 1) (x2 := 60) h2421)) ?_
      rintro _ w2422 ⟨rfl, hn⟩
      replace HM : Mem w [] w2422 [box b2394 32 [.int .i64 0, .slice none 0 0], box b2391 28 [.int .i64 x1.fKind, .int .i64 x1.fMember, p1_0, p1_1]] := HM.call hn
      refine ox rfl rfl rfl rfl (ex_not rfl rfl) ?_
      refine ops_nil (at_then ?_)
      refine run_cond (b := !t2420) rfl (fun hb2423 => ?_) (fun hb2423 => ?_)
      · replace H := cond_t hb2423 H
        refine run_seq ?_
        refine run_region rfl ?_
        refine ox rfl rfl rfl rfl (ex_build (cells := #[(.int .i64 3), (.slice none 0 0)]) rfl rfl (by kernel_rfl)) ?_
        refine odS rfl rfl rfl (does_store (vs := [.int .i64 3, .slice none 0 0]) (cs' := [.int .i64 3, .slice none 0 0]) rfl rfl rfl rfl tsz32 (Ones.int (Ones.sl Ones.nil)) rfl rfl HM) ?_
        rintro w2424 HM
        refine ops_nil (at_then ?_)
        refine run_ret ?_
        refine at_then_ret ?_
        replace HM := HM.empty kMember 38 none
        replace HM := (HM.front 2 rfl rfl).drop
        replace HM := HM.front 1 rfl rfl
        have hcb0 := HM.box_at 0 rfl
        replace HM := (HM.front 0 rfl rfl).drop
        have hR := Option.some.inj H
        subst hR
        exact at_retN rfl rfl Try.underlying32 rfl tsz32 rfl hcb0 ⟨_, rfl, _, rfl, HM⟩
      · replace H := cond_f hb2423 H
        refine run_skip ?_
        refine at_then ?_
        refine run_seq ?_
        obtain ⟨t2426, h2427, H⟩ := bind_some H
        refine run_region rfl ?_
        refine ox rfl rfl rfl rfl (ex_move rfl rfl) ?_
        refine ox rfl rfl rfl rfl (ex_move rfl rfl) ?_
        refine od rfl rfl rfl rfl (does_callk rfl callok59 rfl (spec_l6Take.calls (x0 := x0) (x1 := x1) (x2 := x2) (HM.rd hp0) (HM.box_at 1 rfl) (HM.rd hp1_0) (HM.rd hp1_1) h2427)) ?_
        rintro _ w2430 ⟨u2428, rfl, hn⟩
        replace HM : Mem w [] w2430 [own kMember 38 u2428 t2426.1, box b2394 32 [.int .i64 0, .slice none 0 0], box b2391 28 [.int .i64 x1.fKind, .int .i64 x1.fMember, p1_0, p1_1]] := HM.call hn
        refine ox rfl rfl rfl rfl (ex_move rfl rfl) ?_
        refine ox rfl rfl rfl rfl (ex_extract rfl rfl rfl) ?_
        refine ox rfl rfl rfl rfl (ex_extract rfl rfl rfl) ?_
        refine ox rfl rfl rfl rfl (ex_assign rfl rfl) ?_
        refine ox rfl rfl rfl rfl (ex_assign rfl rfl) ?_
        refine ops_nil (at_then (run_seq ?_))
        refine run_seq ?_
        refine run_region rfl ?_
        refine ox rfl rfl rfl rfl (ex_move rfl rfl) ?_
        refine ox rfl rfl rfl rfl (ex_neq rfl rfl rfl) ?_
        refine ops_nil (at_then ?_)
        refine run_cond (b := (t2426.2 != 0)) rfl (fun hb2431 => ?_) (fun hb2431 => ?_)
        · replace H := cond_t hb2431 H
          refine run_seq ?_
          refine run_region rfl ?_
          refine ox rfl rfl rfl rfl (ex_move rfl rfl) ?_
          refine ox rfl rfl rfl rfl (ex_build (cells := #[(.int .i64 t2426.2), (.slice none 0 0)]) rfl rfl (by kernel_rfl)) ?_
          replace HM := HM.front 1 rfl rfl
          refine odS rfl rfl rfl (does_store (vs := [.int .i64 t2426.2, .slice none 0 0]) (cs' := [.int .i64 t2426.2, .slice none 0 0]) rfl rfl rfl rfl tsz32 (Ones.int (Ones.sl Ones.nil)) rfl rfl HM) ?_
          rintro w2432 HM
          refine ops_nil (at_then ?_)
          refine run_ret ?_
          refine at_then_ret ?_
          replace HM := HM.empty kMember 38 none
          replace HM := (HM.front 2 rfl rfl).drop
          replace HM := (HM.front 2 rfl rfl).drop
          replace HM := HM.front 1 rfl rfl
          have hcb0 := HM.box_at 0 rfl
          replace HM := (HM.front 0 rfl rfl).drop
          have hR := Option.some.inj H
          subst hR
          exact at_retN rfl rfl Try.underlying32 rfl tsz32 rfl hcb0 ⟨_, rfl, _, rfl, HM⟩
        · replace H := cond_f hb2431 H
          refine run_skip ?_
          refine at_then ?_
          refine run_seq ?_
          refine run_region rfl ?_
          refine ox rfl rfl rfl rfl (ex_move rfl rfl) ?_
          refine ox rfl rfl rfl rfl (ex_build1 (fun u2428 => [(1, u2428)]) (fun u2428 => #[.int .i64 0, u2428]) rfl rfl (fun _ _ _ => by kernel_rfl) (HM.own_rd 0 rfl).isSl) ?_
          replace HM := HM.front 1 rfl rfl
          refine odS rfl rfl rfl (does_store (vs := [.int .i64 0, u2428]) (cs' := [.int .i64 0, u2428]) rfl rfl rfl rfl tsz32 (Ones.int (Ones.rd (HM.own_rd 1 rfl) Ones.nil)) rfl rfl HM) ?_
          rintro w2434 HM
          refine ops_nil (at_then ?_)
          refine run_ret ?_
          replace HM := (HM.front 2 rfl rfl).drop
          have hcb0 := HM.box_at 0 rfl
          replace HM := (HM.front 0 rfl rfl).drop
          have hR := Option.some.inj H
          subst hR
          exact at_retN rfl rfl Try.underlying32 rfl tsz32 rfl hcb0 ⟨_, rfl, _, rfl, HM⟩

def impl_within.f (k : Nat) (x0 : Int) (x1 : Int) (x2 : Int) : Option Bool := some ((decide (x1 ≤ x0)) && (decide (x0 ≤ x2)))
theorem impl_within.calls {k : Nat} {x0 : Int} {x1 : Int} {x2 : Int}  {w : World}  {r : Bool} (H : impl_within.f k x0 x1 x2 = some r) :
    Calls Try.prog 89 ([.int .i64 x0, .int .i64 x1, .int .i64 x2] : List Value).toArray w (fun e w_ => ∃ v, e = .returned v ∧ v = (.bool r) ∧ Mem w [] w_ []) := by
  have HM := Mem.start w
  refine calls_run (N := 15) Try.func89 rfl rfl rfl rfl ?_
  unfold impl_within.f at H
  refine run_seq ?_
  refine run_region rfl ?_
  refine ox rfl rfl rfl rfl (ex_assign rfl rfl) ?_
  refine ops_nil (at_then (run_seq ?_))
  refine run_meet (fun ρ_ w_ => ρ_ = [(6, .bool ((decide (x1 ≤ x0)) && (decide (x0 ≤ x2))))] ∧ Mem w [] w_ []) ?_ ?_
  · skip
    refine run_region rfl ?_
    refine ox rfl rfl rfl rfl (ex_move rfl rfl) ?_
    refine ox rfl rfl rfl rfl (ex_move rfl rfl) ?_
    refine ox rfl rfl rfl rfl (ex_geq rfl rfl rfl) ?_
    refine ox rfl rfl rfl rfl (ex_move rfl rfl) ?_
    refine bool_cases (decide (x1 ≤ x0)) (fun hg2469 => ?_) (fun hg2469 => ?_)
    · skip
      refine ops_ex rfl (guard_on rfl rfl rfl hg2469) rfl rfl (ex_move rfl rfl) ?_
      refine ops_ex rfl (guard_on rfl rfl rfl hg2469) rfl rfl (ex_move rfl rfl) ?_
      refine ops_ex rfl (guard_on rfl rfl rfl hg2469) rfl rfl (ex_leq rfl rfl rfl) ?_
      refine ops_ex (v := .bool ((decide (x1 ≤ x0)) && (decide (x0 ≤ x2)))) rfl (guard_none rfl) rfl rfl (ex_pand_t rfl rfl hg2469 rfl) ?_
      refine ox rfl rfl rfl rfl (ex_assign rfl rfl) ?_
      refine ops_nil ?_
      exact at_meet [(6, .bool ((decide (x1 ≤ x0)) && (decide (x0 ≤ x2))))] ⟨rfl, HM⟩ (Sub.cons rfl Sub.nil)
    · skip
      refine ops_off rfl (guard_off rfl rfl rfl hg2469) rfl rfl ?_
      refine ops_off rfl (guard_off rfl rfl rfl hg2469) rfl rfl ?_
      refine ops_off rfl (guard_off rfl rfl rfl hg2469) rfl rfl ?_
      have hg2470 : ((decide (x1 ≤ x0)) && (decide (x0 ≤ x2))) = false := by simp only [hg2469, Bool.and_true, Bool.true_and, Bool.and_false, Bool.false_and, Bool.or_true, Bool.true_or, Bool.or_false, Bool.false_or, Bool.not_true, Bool.not_false, Bool.not_not]
      refine ops_ex (v := .bool ((decide (x1 ≤ x0)) && (decide (x0 ≤ x2)))) rfl (guard_none rfl) rfl rfl (ex_pand_f rfl rfl hg2469) ?_
      refine ox rfl rfl rfl rfl (ex_assign rfl rfl) ?_
      refine ops_nil ?_
      exact at_meet [(6, .bool ((decide (x1 ≤ x0)) && (decide (x0 ≤ x2))))] ⟨rfl, HM⟩ (Sub.cons rfl Sub.nil)
  · rintro _ w2471 ⟨rfl, HM⟩
    refine at_then ?_
    refine run_ret ?_
    have hR := Option.some.inj H
    subst hR
    exact at_ret1 rfl rfl ⟨_, rfl, rfl, HM⟩

def impl_isKey.f (k : Nat) (x0 : Int) : Option Bool := ((impl_within.f k x0 1 999).bind fun t2474 => some t2474)
theorem impl_isKey.calls {k : Nat} {x0 : Int}  {w : World}  {r : Bool} (H : impl_isKey.f k x0 = some r) :
    Calls Try.prog 62 ([.int .i64 x0] : List Value).toArray w (fun e w_ => ∃ v, e = .returned v ∧ v = (.bool r) ∧ Mem w [] w_ []) := by
  have HM := Mem.start w
  refine calls_run (N := 5) Try.func62 rfl rfl rfl rfl ?_
  unfold impl_isKey.f at H
  refine run_seq ?_
  refine run_region rfl ?_
  refine ox rfl rfl rfl rfl (ex_assign rfl rfl) ?_
  refine ops_nil (at_then (run_seq ?_))
  obtain ⟨t2474, h2475, H⟩ := bind_some H
  refine run_region rfl ?_
  refine ox rfl rfl rfl rfl (ex_move rfl rfl) ?_
  refine od rfl rfl rfl rfl (does_callk rfl callok89 rfl (impl_within.calls (x0 := x0) (x1 := 1) (x2 := 999) h2475)) ?_
  rintro _ w2476 ⟨rfl, hn⟩
  replace HM : Mem w [] w2476 [] := HM.call hn
  refine ox rfl rfl rfl rfl (ex_assign rfl rfl) ?_
  refine ops_nil (at_then ?_)
  refine run_ret ?_
  have hR := Option.some.inj H
  subst hR
  exact at_ret1 rfl rfl ⟨_, rfl, rfl, HM⟩

def impl_isId.f (k : Nat) (x0 : Int) : Option Bool := ((impl_within.f k x0 1 60).bind fun t2484 => some t2484)
theorem impl_isId.calls {k : Nat} {x0 : Int}  {w : World}  {r : Bool} (H : impl_isId.f k x0 = some r) :
    Calls Try.prog 109 ([.int .i64 x0] : List Value).toArray w (fun e w_ => ∃ v, e = .returned v ∧ v = (.bool r) ∧ Mem w [] w_ []) := by
  have HM := Mem.start w
  refine calls_run (N := 5) Try.func109 rfl rfl rfl rfl ?_
  unfold impl_isId.f at H
  refine run_seq ?_
  refine run_region rfl ?_
  refine ox rfl rfl rfl rfl (ex_assign rfl rfl) ?_
  refine ops_nil (at_then (run_seq ?_))
  obtain ⟨t2484, h2485, H⟩ := bind_some H
  refine run_region rfl ?_
  refine ox rfl rfl rfl rfl (ex_move rfl rfl) ?_
  refine od rfl rfl rfl rfl (does_callk rfl callok89 rfl (impl_within.calls (x0 := x0) (x1 := 1) (x2 := 60) h2485)) ?_
  rintro _ w2486 ⟨rfl, hn⟩
  replace HM : Mem w [] w2486 [] := HM.call hn
  refine ox rfl rfl rfl rfl (ex_assign rfl rfl) ?_
  refine ops_nil (at_then ?_)
  refine run_ret ?_
  have hR := Option.some.inj H
  subst hR
  exact at_ret1 rfl rfl ⟨_, rfl, rfl, HM⟩

def impl_isRef.f (k : Nat) (x0 : Ref) : Option Bool := ((impl_isId.f k x0.fTx).bind fun t2495 => ((bif t2495 then impl_within.f k x0.fAt 0 3 else some default).bind fun t2497 => some (t2495 && t2497)))
theorem impl_isRef.calls {k : Nat} {x0 : Ref}  {w : World}  {r : Bool} (H : impl_isRef.f k x0 = some r) :
    Calls Try.prog 63 ([.agg #[(.int .i64 x0.fTx), (.int .i64 x0.fAt)]] : List Value).toArray w (fun e w_ => ∃ v, e = .returned v ∧ v = (.bool r) ∧ Mem w [] w_ []) := by
  have HM := Mem.start w
  refine calls_run (N := 11) Try.func63 rfl rfl rfl rfl ?_
  unfold impl_isRef.f at H
  refine run_seq ?_
  refine run_region rfl ?_
  refine od rfl rfl rfl rfl (does_box (cs := [.int .i64 x0.fTx, .int .i64 x0.fAt]) rfl rfl rfl HM) ?_
  rintro _ w2494 ⟨b2491, rfl, HM⟩
  refine ox rfl rfl rfl rfl (ex_assign rfl rfl) ?_
  refine ops_nil (at_then (run_seq ?_))
  obtain ⟨t2495, h2496, H⟩ := bind_some H
  obtain ⟨t2497, h2498, H⟩ := bind_some H
  refine run_meet (fun ρ_ w_ => ρ_ = [(2, .bool (t2495 && t2497))] ∧ Mem w [] w_ []) ?_ ?_
  · skip
    refine run_region rfl ?_
    refine ox rfl rfl rfl rfl (ex_fieldAddr (off' := 0) rfl rfl Try.underlying36 rfl tsz2 rfl) ?_
    refine ox rfl rfl rfl rfl (ex_load1 rfl rfl Try.underlying2 rfl ((HM.box_at 0 rfl) 0 _ rfl)) ?_
    refine od rfl rfl rfl rfl (does_callk rfl callok109 rfl (impl_isId.calls (x0 := x0.fTx) h2496)) ?_
    rintro _ w2499 ⟨rfl, hn⟩
    replace HM : Mem w [] w2499 [box b2491 36 [.int .i64 x0.fTx, .int .i64 x0.fAt]] := HM.call hn
    refine ox rfl rfl rfl rfl (ex_move rfl rfl) ?_
    refine bool_cases t2495 (fun hg2500 => ?_) (fun hg2500 => ?_)
    · skip
      refine ops_ex rfl (guard_on rfl rfl rfl hg2500) rfl rfl (ex_fieldAddr (off' := 1) rfl rfl Try.underlying36 rfl tsz2 rfl) ?_
      refine ops_ex rfl (guard_on rfl rfl rfl hg2500) rfl rfl (ex_load1 rfl rfl Try.underlying2 rfl ((HM.box_at 0 rfl) 1 _ rfl)) ?_
      refine ops_does rfl (guard_on rfl rfl rfl hg2500) rfl rfl (does_callk rfl callok89 rfl (impl_within.calls (x0 := x0.fAt) (x1 := 0) (x2 := 3) (cond_t hg2500 h2498))) ?_
      rintro _ w2501 ⟨rfl, hn⟩
      replace HM : Mem w [] w2501 [box b2491 36 [.int .i64 x0.fTx, .int .i64 x0.fAt]] := HM.call hn
      refine ops_ex (v := .bool (t2495 && t2497)) rfl (guard_none rfl) rfl rfl (ex_pand_t rfl rfl hg2500 rfl) ?_
      refine ox rfl rfl rfl rfl (ex_assign rfl rfl) ?_
      refine ops_nil ?_
      replace HM := (HM.front 0 rfl rfl).drop
      exact at_meet [(2, .bool (t2495 && t2497))] ⟨rfl, HM⟩ (Sub.cons rfl Sub.nil)
    · skip
      refine ops_off rfl (guard_off rfl rfl rfl hg2500) rfl rfl ?_
      refine ops_off rfl (guard_off rfl rfl rfl hg2500) rfl rfl ?_
      refine ops_off rfl (guard_off rfl rfl rfl hg2500) rfl rfl ?_
      have hg2502 : (t2495 && t2497) = false := by simp only [hg2500, Bool.and_true, Bool.true_and, Bool.and_false, Bool.false_and, Bool.or_true, Bool.true_or, Bool.or_false, Bool.false_or, Bool.not_true, Bool.not_false, Bool.not_not]
      refine ops_ex (v := .bool (t2495 && t2497)) rfl (guard_none rfl) rfl rfl (ex_pand_f rfl rfl hg2500) ?_
      refine ox rfl rfl rfl rfl (ex_assign rfl rfl) ?_
      refine ops_nil ?_
      replace HM := (HM.front 0 rfl rfl).drop
      exact at_meet [(2, .bool (t2495 && t2497))] ⟨rfl, HM⟩ (Sub.cons rfl Sub.nil)
  · rintro _ w2503 ⟨rfl, HM⟩
    refine at_then ?_
    refine run_ret ?_
    have hR := Option.some.inj H
    subst hR
    exact at_ret1 rfl rfl ⟨_, rfl, rfl, HM⟩

def impl_MembersFault_1.f (k : Nat) (x0 : Member) (x1 : Member) : Option Bool := some ((x0.fRef.fTx == x1.fRef.fTx) && (x0.fRef.fAt == x1.fRef.fAt))
theorem impl_MembersFault_1.calls {k : Nat} {x0 : Member} {x1 : Member} {b1 f1 : Nat} {w : World} (hc1 : CellsAt w b1 f1 [.int .i64 x1.fKey, .int .i64 x1.fRef.fTx, .int .i64 x1.fRef.fAt]) {r : Bool} (H : impl_MembersFault_1.f k x0 x1 = some r) :
    Calls Try.prog 65 ([.agg #[(.int .i64 x0.fKey), (.int .i64 x0.fRef.fTx), (.int .i64 x0.fRef.fAt)], .pointer (some ⟨b1, f1, none⟩)] : List Value).toArray w (fun e w_ => ∃ v, e = .returned v ∧ v = (.bool r) ∧ Mem w [] w_ []) := by
  have HM := Mem.start w
  refine calls_run (N := 9) Try.func65 rfl rfl rfl rfl ?_
  unfold impl_MembersFault_1.f at H
  refine run_seq ?_
  refine run_region rfl ?_
  refine od rfl rfl rfl rfl (does_box (cs := [.int .i64 x0.fKey, .int .i64 x0.fRef.fTx, .int .i64 x0.fRef.fAt]) rfl rfl rfl HM) ?_
  rintro _ w2575 ⟨b2572, rfl, HM⟩
  refine ox rfl rfl rfl rfl (ex_assign rfl rfl) ?_
  refine ops_nil (at_then (run_seq ?_))
  refine run_region rfl ?_
  refine ox rfl rfl rfl rfl (ex_fieldAddr (off' := 1) rfl rfl Try.underlying38 rfl tsz36 rfl) ?_
  refine ox rfl rfl rfl rfl (ex_loadN (cs := [(.int .i64 x0.fRef.fTx), (.int .i64 x0.fRef.fAt)]) rfl rfl Try.underlying36 rfl tsz36 rfl ((HM.box_at 0 rfl).sub 1 2 rfl)) ?_
  refine ox rfl rfl rfl rfl (ex_fieldAddr (off' := f1 + 1) rfl rfl Try.underlying38 rfl tsz36 rfl) ?_
  refine ox rfl rfl rfl rfl (ex_loadN (cs := [(.int .i64 x1.fRef.fTx), (.int .i64 x1.fRef.fAt)]) rfl rfl Try.underlying36 rfl tsz36 rfl ((HM.at_ hc1).sub 1 2 rfl)) ?_
  refine ox rfl rfl rfl rfl (ex_aeql rfl rfl rfl (by kernel_rfl) (eqs36 _ _ _ _ _)) ?_
  refine ox rfl rfl rfl rfl (ex_assign rfl rfl) ?_
  refine ops_nil (at_then ?_)
  refine run_ret ?_
  replace HM := (HM.front 0 rfl rfl).drop
  have hR := Option.some.inj H
  subst hR
  exact at_ret1 rfl rfl ⟨_, rfl, rfl, HM⟩

def slices_IndexFunc_impl_Member.l0 (x0 : List Member) (x1_0 : Member) : Nat → Int → Option (Int ⊕ Unit)
  | 0, _ => none
  | k + 1, a2621 => (bif (decide (a2621 < (x0.length : Int))) then (chk (idxOk a2621 x0.length) ((impl_MembersFault_1.f k (gt x0 a2621) x1_0).bind fun t2633 => (bif t2633 then some (.inl a2621) else slices_IndexFunc_impl_Member.l0 x0 x1_0 k (wrap64 (a2621 + 1))))) else some (.inr ()))
theorem slices_IndexFunc_impl_Member.l0_z (x0 : List Member) (x1_0 : Member) (a2621 : Int) : slices_IndexFunc_impl_Member.l0 x0 x1_0 0 a2621 = none := rfl
theorem slices_IndexFunc_impl_Member.l0_s (x0 : List Member) (x1_0 : Member) (k : Nat) (a2621 : Int) : slices_IndexFunc_impl_Member.l0 x0 x1_0 (k + 1) a2621 = (bif (decide (a2621 < (x0.length : Int))) then (chk (idxOk a2621 x0.length) ((impl_MembersFault_1.f k (gt x0 a2621) x1_0).bind fun t2633 => (bif t2633 then some (.inl a2621) else slices_IndexFunc_impl_Member.l0 x0 x1_0 k (wrap64 (a2621 + 1))))) else some (.inr ())) := rfl
def slices_IndexFunc_impl_Member.f (k : Nat) (x0 : List Member) (x1_0 : Member) : Option Int := ((slices_IndexFunc_impl_Member.l0 x0 x1_0 k 0).bind fun o2613 => thn o2613 (fun r => some r) (fun _ => some (-1)))
theorem slices_IndexFunc_impl_Member.calls {k : Nat} {x0 : List Member} {x1_0 : Member} {p0 : Value} {b1_0 f1_0 : Nat} {w : World} (hp0 : RdS kMember w p0 x0) (hc1_0 : CellsAt w b1_0 f1_0 [.int .i64 x1_0.fKey, .int .i64 x1_0.fRef.fTx, .int .i64 x1_0.fRef.fAt]) {r : Int} (H : slices_IndexFunc_impl_Member.f k x0 x1_0 = some r) :
    Calls Try.prog 124 ([p0, .func (.func 65) #[] #[(.pointer (some ⟨b1_0, f1_0, none⟩))]] : List Value).toArray w (fun e w_ => ∃ v, e = .returned v ∧ v = (.int .i64 r) ∧ Mem w [] w_ []) := by
  have HM := Mem.start w
  refine calls_run (N := 19) Try.func124 rfl rfl rfl rfl ?_
  unfold slices_IndexFunc_impl_Member.f at H
  refine run_seq ?_
  refine run_region rfl ?_
  refine ox rfl rfl rfl rfl (ex_assign rfl rfl) ?_
  refine ops_nil (at_then ?_)
  obtain ⟨o2613, ho2614, H⟩ := bind_some H
  refine run_mid (fun ρ_ w_ => Sum.inr () = o2613 ∧ ρ_ = [] ∧ Mem w [] w_ []) ?_ ?_
  · skip
    refine run_seq ?_
    refine run_region rfl ?_
    refine ox rfl rfl rfl rfl (ex_move rfl rfl) ?_
    refine ox rfl rfl rfl rfl (ex_len (d := kMember) (xs := x0) rfl rfl Try.underlying24 hp0) ?_
    refine ox rfl rfl rfl rfl (ex_move rfl rfl) ?_
    refine ops_nil (at_then ?_)
    refine run_block ?_
    refine run_loop (fun k_ ρ_ w_ => ∃ a2621 : Int, slices_IndexFunc_impl_Member.l0 x0 x1_0 k_ a2621 = some o2613 ∧ ρ_ = [(0, p0), (1, .func (.func 65) #[] #[(.pointer (some ⟨b1_0, f1_0, none⟩))]), (7, .int .i64 (x0.length : Int)), (8, .int .i64 a2621)] ∧ Mem w [] w_ []) k (ρ1 := [(0, p0), (1, .func (.func 65) #[] #[(.pointer (some ⟨b1_0, f1_0, none⟩))]), (7, .int .i64 (x0.length : Int)), (8, .int .i64 0)]) ⟨_, ho2614, rfl, HM⟩ (Sub.cons rfl (Sub.cons rfl (Sub.cons rfl (Sub.cons rfl Sub.nil)))) ?_
    clear HM ho2614
    rintro k2628 _ w2629 ⟨a2621, ho2614, rfl, HM⟩
    obtain _ | k2628 := k2628
    · exact nomatch ((slices_IndexFunc_impl_Member.l0_z x0 x1_0 a2621).symm.trans ho2614)
    replace ho2614 := (slices_IndexFunc_impl_Member.l0_s x0 x1_0 k2628 a2621).symm.trans ho2614
    refine run_seq ?_
    refine run_region rfl ?_
    refine ox rfl rfl rfl rfl (ex_lss rfl rfl rfl) ?_
    refine ops_nil (at_then (run_seq ?_))
    refine run_cond (b := (decide (a2621 < (x0.length : Int)))) rfl (fun hb2630 => ?_) (fun hb2630 => ?_)
    · replace ho2614 := cond_t hb2630 ho2614
      refine run_skip ?_
      refine at_then ?_
      refine run_seq ?_
      refine run_block ?_
      refine run_seq ?_
      refine run_region rfl ?_
      refine ox rfl rfl rfl rfl (ex_move rfl rfl) ?_
      refine ox rfl rfl rfl rfl (ex_assign rfl rfl) ?_
      refine ops_nil (at_then (run_seq ?_))
      obtain ⟨e2631, ho2614⟩ := chk_some ho2614
      obtain ⟨t2633, h2634, ho2614⟩ := bind_some ho2614
      refine run_region rfl ?_
      refine ox rfl rfl rfl rfl (ex_move rfl rfl) ?_
      refine ox rfl rfl rfl rfl (ex_move rfl rfl) ?_
      refine ox rfl rfl rfl rfl (ex_move rfl rfl) ?_
      have hc2632 : CellsAt _ (sb p0) (so p0 + (a2621).toNat * 3) [(.int .i64 ((gt x0 a2621).fKey)), (.int .i64 ((gt x0 a2621).fRef.fTx)), (.int .i64 ((gt x0 a2621).fRef.fAt))] := rd_plain hp0 e2631
      refine ox rfl rfl rfl rfl (ex_indexAddr (d := kMember) rfl rfl rfl Try.underlying24 tsz38 hp0 (idx_lo e2631) (idx_hi e2631)) ?_
      refine ox rfl rfl rfl rfl (ex_loadN (cs := [(.int .i64 ((gt x0 a2621).fKey)), (.int .i64 ((gt x0 a2621).fRef.fTx)), (.int .i64 ((gt x0 a2621).fRef.fAt))]) rfl rfl Try.underlying38 rfl tsz38 rfl ((HM.at_ hc2632).sub 0 3 rfl)) ?_
      refine od rfl rfl rfl rfl (does_callvk rfl callok65 rfl rfl rfl (impl_MembersFault_1.calls (x0 := (gt x0 a2621)) (x1 := x1_0) (HM.at_ hc1_0) h2634)) ?_
      rintro _ w2635 ⟨rfl, hn⟩
      replace HM : Mem w [] w2635 [] := HM.call hn
      refine ops_nil (at_then ?_)
      refine run_cond (b := t2633) rfl (fun hb2636 => ?_) (fun hb2636 => ?_)
      · replace ho2614 := cond_t hb2636 ho2614
        refine run_seq ?_
        refine run_region rfl ?_
        refine ox rfl rfl rfl rfl (ex_move rfl rfl) ?_
        refine ox rfl rfl rfl rfl (ex_assign rfl rfl) ?_
        refine ops_nil (at_then ?_)
        refine run_ret ?_
        refine at_block_ret ?_
        refine at_then_ret ?_
        refine at_then_ret ?_
        refine at_block_ret ?_
        refine at_then_ret ?_
        have hR := Option.some.inj ho2614
        subst hR
        have hT := thn_inl H
        have hR := Option.some.inj hT
        subst hR
        exact at_ret1 rfl rfl ⟨_, rfl, rfl, HM⟩
      · replace ho2614 := cond_f hb2636 ho2614
        refine run_skip ?_
        refine at_block ?_
        refine at_then ?_
        refine run_region rfl ?_
        refine ox rfl rfl rfl rfl (ex_add rfl rfl rfl) ?_
        refine ox rfl rfl rfl rfl (ex_move rfl rfl) ?_
        refine ops_nil ?_
        exact at_again k2628 (ρ1 := [(0, p0), (1, .func (.func 65) #[] #[(.pointer (some ⟨b1_0, f1_0, none⟩))]), (7, .int .i64 (x0.length : Int)), (8, .int .i64 (wrap64 (a2621 + 1)))]) (Nat.lt_succ_self _) ⟨_, ho2614, rfl, HM⟩ (Sub.cons rfl (Sub.cons rfl (Sub.cons rfl (Sub.cons rfl Sub.nil))))
    · replace ho2614 := cond_f hb2630 ho2614
      refine run_exit ?_
      refine at_then_exit ?_
      refine at_then_exit ?_
      refine at_block_exit ?_
      exact at_mid (ρ' := []) ⟨(Option.some.inj ho2614), rfl, HM⟩ Sub.nil
  · rintro _ w2637 ⟨rfl, rfl, HM⟩
    replace H := (thn_inr H)
    refine run_seq ?_
    refine run_region rfl ?_
    refine ox rfl rfl rfl rfl (ex_assign rfl rfl) ?_
    refine ops_nil (at_then ?_)
    refine run_ret ?_
    have hR := Option.some.inj H
    subst hR
    exact at_ret1 rfl rfl ⟨_, rfl, rfl, HM⟩

def slices_ContainsFunc_impl_Member.f (k : Nat) (x0 : List Member) (x1_0 : Member) : Option Bool := ((slices_IndexFunc_impl_Member.f k x0 x1_0).bind fun t2640 => some (decide (0 ≤ t2640)))
theorem slices_ContainsFunc_impl_Member.calls {k : Nat} {x0 : List Member} {x1_0 : Member} {p0 : Value} {b1_0 f1_0 : Nat} {w : World} (hp0 : RdS kMember w p0 x0) (hc1_0 : CellsAt w b1_0 f1_0 [.int .i64 x1_0.fKey, .int .i64 x1_0.fRef.fTx, .int .i64 x1_0.fRef.fAt]) {r : Bool} (H : slices_ContainsFunc_impl_Member.f k x0 x1_0 = some r) :
    Calls Try.prog 64 ([p0, .func (.func 65) #[] #[(.pointer (some ⟨b1_0, f1_0, none⟩))]] : List Value).toArray w (fun e w_ => ∃ v, e = .returned v ∧ v = (.bool r) ∧ Mem w [] w_ []) := by
  have HM := Mem.start w
  refine calls_run (N := 9) Try.func64 rfl rfl rfl rfl ?_
  unfold slices_ContainsFunc_impl_Member.f at H
  refine run_seq ?_
  refine run_region rfl ?_
  refine ox rfl rfl rfl rfl (ex_assign rfl rfl) ?_
  refine ops_nil (at_then (run_seq ?_))
  obtain ⟨t2640, h2641, H⟩ := bind_some H
  refine run_region rfl ?_
  refine ox rfl rfl rfl rfl (ex_move rfl rfl) ?_
  refine ox rfl rfl rfl rfl (ex_move rfl rfl) ?_
  refine od rfl rfl rfl rfl (does_callk rfl callok124 rfl (slices_IndexFunc_impl_Member.calls (x0 := x0) (x1_0 := x1_0) (HM.rd hp0) (HM.at_ hc1_0) h2641)) ?_
  rintro _ w2642 ⟨rfl, hn⟩
  replace HM : Mem w [] w2642 [] := HM.call hn
  refine ox rfl rfl rfl rfl (ex_geq rfl rfl rfl) ?_
  refine ox rfl rfl rfl rfl (ex_assign rfl rfl) ?_
  refine ops_nil (at_then ?_)
  refine run_ret ?_
  have hR := Option.some.inj H
  subst hR
  exact at_ret1 rfl rfl ⟨_, rfl, rfl, HM⟩

def impl_MembersFault.l0 (x0 : List Member) : Nat → Int → Option (Int ⊕ Unit)
  | 0, _ => none
  | k + 1, a2756 => (bif (decide (a2756 < (x0.length : Int))) then (chk (idxOk a2756 x0.length) ((impl_isKey.f k ((gt x0 a2756).fKey)).bind fun t2791 => ((bif (!(!t2791)) then impl_isRef.f k ((gt x0 a2756).fRef) else some default).bind fun t2793 => (bif ((!t2791) || (!t2793)) then some (.inl 3) else (chk (!(decide (0 < a2756)) || (idxOk (wrap64 (a2756 - 1)) x0.length)) (bif ((decide (0 < a2756)) && (decide (((gt x0 a2756).fKey) ≤ ((gt x0 (wrap64 (a2756 - 1))).fKey)))) then some (.inl 1) else impl_MembersFault.l0 x0 k (wrap64 (a2756 + 1)))))))) else some (.inr ()))
theorem impl_MembersFault.l0_z (x0 : List Member) (a2756 : Int) : impl_MembersFault.l0 x0 0 a2756 = none := rfl
theorem impl_MembersFault.l0_s (x0 : List Member) (k : Nat) (a2756 : Int) : impl_MembersFault.l0 x0 (k + 1) a2756 = (bif (decide (a2756 < (x0.length : Int))) then (chk (idxOk a2756 x0.length) ((impl_isKey.f k ((gt x0 a2756).fKey)).bind fun t2791 => ((bif (!(!t2791)) then impl_isRef.f k ((gt x0 a2756).fRef) else some default).bind fun t2793 => (bif ((!t2791) || (!t2793)) then some (.inl 3) else (chk (!(decide (0 < a2756)) || (idxOk (wrap64 (a2756 - 1)) x0.length)) (bif ((decide (0 < a2756)) && (decide (((gt x0 a2756).fKey) ≤ ((gt x0 (wrap64 (a2756 - 1))).fKey)))) then some (.inl 1) else impl_MembersFault.l0 x0 k (wrap64 (a2756 + 1)))))))) else some (.inr ())) := rfl
def impl_MembersFault.l1 (x0 : List Member) : Nat → Int → Option (Int ⊕ Unit)
  | 0, _ => none
  | k + 1, a2863 => (bif (decide (a2863 < (x0.length : Int))) then (chk (idxOk a2863 x0.length) (chk (cutOk a2863 x0.length) ((slices_ContainsFunc_impl_Member.f k (x0.take (a2863).toNat) (gt x0 a2863)).bind fun t2891 => (bif t2891 then some (.inl 7) else impl_MembersFault.l1 x0 k (wrap64 (a2863 + 1)))))) else some (.inr ()))
theorem impl_MembersFault.l1_z (x0 : List Member) (a2863 : Int) : impl_MembersFault.l1 x0 0 a2863 = none := rfl
theorem impl_MembersFault.l1_s (x0 : List Member) (k : Nat) (a2863 : Int) : impl_MembersFault.l1 x0 (k + 1) a2863 = (bif (decide (a2863 < (x0.length : Int))) then (chk (idxOk a2863 x0.length) (chk (cutOk a2863 x0.length) ((slices_ContainsFunc_impl_Member.f k (x0.take (a2863).toNat) (gt x0 a2863)).bind fun t2891 => (bif t2891 then some (.inl 7) else impl_MembersFault.l1 x0 k (wrap64 (a2863 + 1)))))) else some (.inr ())) := rfl
def impl_MembersFault.f (k : Nat) (x0 : List Member) : Option Int := (bif (decide (8 < (x0.length : Int))) then some 2 else ((impl_MembersFault.l0 x0 k 0).bind fun o2735 => thn o2735 (fun r => some r) (fun _ => ((impl_MembersFault.l1 x0 k 0).bind fun o2848 => thn o2848 (fun r => some r) (fun _ => some 0)))))
theorem impl_MembersFault.calls {k : Nat} {x0 : List Member} {p0 : Value} {w : World} (hp0 : RdS kMember w p0 x0) {r : Int} (H : impl_MembersFault.f k x0 = some r) :
    Calls Try.prog 13 ([p0] : List Value).toArray w (fun e w_ => ∃ v, e = .returned v ∧ v = (.int .i64 r) ∧ Mem w [] w_ []) := by
  have HM := Mem.start w
  refine calls_run (N := 54) Try.func13 rfl rfl rfl rfl ?_
  unfold impl_MembersFault.f at H
  refine run_seq ?_
  refine run_region rfl ?_
  refine ox rfl rfl rfl rfl (ex_assign rfl rfl) ?_
  refine ops_nil (at_then (run_seq ?_))
  refine run_seq ?_
  refine run_region rfl ?_
  refine ox rfl rfl rfl rfl (ex_move rfl rfl) ?_
  refine ox rfl rfl rfl rfl (ex_len (d := kMember) (xs := x0) rfl rfl Try.underlying24 hp0) ?_
  refine ox rfl rfl rfl rfl (ex_gtr rfl rfl rfl) ?_
  refine ops_nil (at_then ?_)
  refine run_cond (b := (decide (8 < (x0.length : Int)))) rfl (fun hb2676 => ?_) (fun hb2676 => ?_)
  · replace H := cond_t hb2676 H
    refine run_seq ?_
    refine run_region rfl ?_
    refine ox rfl rfl rfl rfl (ex_assign rfl rfl) ?_
    refine ops_nil (at_then ?_)
    refine run_ret ?_
    refine at_then_ret ?_
    have hR := Option.some.inj H
    subst hR
    exact at_ret1 rfl rfl ⟨_, rfl, rfl, HM⟩
  · replace H := cond_f hb2676 H
    refine run_skip ?_
    refine at_then ?_
    obtain ⟨o2735, ho2736, H⟩ := bind_some H
    refine run_mid (fun ρ_ w_ => Sum.inr () = o2735 ∧ ρ_ = [(0, p0)] ∧ Mem w [] w_ []) ?_ ?_
    · skip
      refine run_seq ?_
      refine run_region rfl ?_
      refine ox rfl rfl rfl rfl (ex_move rfl rfl) ?_
      refine ox rfl rfl rfl rfl (ex_len (d := kMember) (xs := x0) rfl rfl Try.underlying24 hp0) ?_
      refine ox rfl rfl rfl rfl (ex_move rfl rfl) ?_
      refine ops_nil (at_then ?_)
      refine run_block ?_
      refine run_loop (fun k_ ρ_ w_ => ∃ a2756 : Int, impl_MembersFault.l0 x0 k_ a2756 = some o2735 ∧ ρ_ = [(0, p0), (10, p0), (11, .int .i64 (x0.length : Int)), (12, .int .i64 a2756)] ∧ Mem w [] w_ []) k (ρ1 := [(0, p0), (10, p0), (11, .int .i64 (x0.length : Int)), (12, .int .i64 0)]) ⟨_, ho2736, rfl, HM⟩ (Sub.cons rfl (Sub.cons rfl (Sub.cons rfl (Sub.cons rfl Sub.nil)))) ?_
      clear HM ho2736
      rintro k2776 _ w2777 ⟨a2756, ho2736, rfl, HM⟩
      obtain _ | k2776 := k2776
      · exact nomatch ((impl_MembersFault.l0_z x0 a2756).symm.trans ho2736)
      replace ho2736 := (impl_MembersFault.l0_s x0 k2776 a2756).symm.trans ho2736
      refine run_seq ?_
      refine run_region rfl ?_
      refine ox rfl rfl rfl rfl (ex_lss rfl rfl rfl) ?_
      refine ops_nil (at_then (run_seq ?_))
      refine run_cond (b := (decide (a2756 < (x0.length : Int)))) rfl (fun hb2778 => ?_) (fun hb2778 => ?_)
      · replace ho2736 := cond_t hb2778 ho2736
        refine run_skip ?_
        refine at_then ?_
        refine run_seq ?_
        refine run_block ?_
        refine run_seq ?_
        obtain ⟨e2779, ho2736⟩ := chk_some ho2736
        refine run_region rfl ?_
        refine ox rfl rfl rfl rfl (ex_move rfl rfl) ?_
        have hc2780 : CellsAt _ (sb p0) (so p0 + (a2756).toNat * 3) [(.int .i64 ((gt x0 a2756).fKey)), (.int .i64 ((gt x0 a2756).fRef.fTx)), (.int .i64 ((gt x0 a2756).fRef.fAt))] := rd_plain hp0 e2779
        refine ox rfl rfl rfl rfl (ex_indexAddr (d := kMember) rfl rfl rfl Try.underlying24 tsz38 hp0 (idx_lo e2779) (idx_hi e2779)) ?_
        refine ox rfl rfl rfl rfl (ex_loadN (cs := [(.int .i64 ((gt x0 a2756).fKey)), (.int .i64 ((gt x0 a2756).fRef.fTx)), (.int .i64 ((gt x0 a2756).fRef.fAt))]) rfl rfl Try.underlying38 rfl tsz38 rfl ((HM.at_ hc2780).sub 0 3 rfl)) ?_
        refine od rfl rfl rfl rfl (does_alloc (cs := [.int .i64 0, .int .i64 0, .int .i64 0]) rfl tz38 rfl HM) ?_
        rintro _ w2784 ⟨b2781, rfl, HM⟩
        refine ox rfl rfl rfl rfl (ex_assign rfl rfl) ?_
        refine odS rfl rfl rfl (does_store (vs := [.int .i64 ((gt x0 a2756).fKey), .int .i64 ((gt x0 a2756).fRef.fTx), .int .i64 ((gt x0 a2756).fRef.fAt)]) (cs' := [.int .i64 ((gt x0 a2756).fKey), .int .i64 ((gt x0 a2756).fRef.fTx), .int .i64 ((gt x0 a2756).fRef.fAt)]) rfl rfl rfl rfl tsz38 (Ones.int (Ones.int (Ones.int Ones.nil))) rfl rfl HM) ?_
        rintro w2785 HM
        refine ops_nil (at_then (run_seq ?_))
        refine run_seq ?_
        obtain ⟨t2791, h2792, ho2736⟩ := bind_some ho2736
        obtain ⟨t2793, h2794, ho2736⟩ := bind_some ho2736
        refine run_meet (fun ρ_ w_ => ρ_ = [(0, p0), (10, p0), (11, .int .i64 (x0.length : Int)), (12, .int .i64 a2756), (4, .pointer (some ⟨b2781, 0, none⟩)), (3, .int .i64 a2756), (26, .bool ((!t2791) || (!t2793)))] ∧ Mem w [] w_ [box b2781 38 [.int .i64 ((gt x0 a2756).fKey), .int .i64 ((gt x0 a2756).fRef.fTx), .int .i64 ((gt x0 a2756).fRef.fAt)]]) ?_ ?_
        · skip
          refine run_region rfl ?_
          refine ox rfl rfl rfl rfl (ex_fieldAddr (off' := 0) rfl rfl Try.underlying38 rfl tsz2 rfl) ?_
          refine ox rfl rfl rfl rfl (ex_load1 rfl rfl Try.underlying2 rfl ((HM.box_at 0 rfl) 0 _ rfl)) ?_
          refine od rfl rfl rfl rfl (does_callk rfl callok62 rfl (impl_isKey.calls (x0 := (gt x0 a2756).fKey) h2792)) ?_
          rintro _ w2795 ⟨rfl, hn⟩
          replace HM : Mem w [] w2795 [box b2781 38 [.int .i64 ((gt x0 a2756).fKey), .int .i64 ((gt x0 a2756).fRef.fTx), .int .i64 ((gt x0 a2756).fRef.fAt)]] := HM.call hn
          refine ox rfl rfl rfl rfl (ex_not rfl rfl) ?_
          refine ox rfl rfl rfl rfl (ex_move rfl rfl) ?_
          refine bool_cases (!t2791) (fun hg2796 => ?_) (fun hg2796 => ?_)
          · skip
            refine ops_off rfl (guard_off rfl rfl rfl hg2796) rfl rfl ?_
            refine ops_off rfl (guard_off rfl rfl rfl hg2796) rfl rfl ?_
            refine ops_off rfl (guard_off rfl rfl rfl hg2796) rfl rfl ?_
            refine ops_off rfl (guard_off rfl rfl rfl hg2796) rfl rfl ?_
            have hg2797 : ((!t2791) || (!t2793)) = true := by simp only [hg2796, Bool.and_true, Bool.true_and, Bool.and_false, Bool.false_and, Bool.or_true, Bool.true_or, Bool.or_false, Bool.false_or, Bool.not_true, Bool.not_false, Bool.not_not]
            refine ops_ex (v := .bool ((!t2791) || (!t2793))) rfl (guard_none rfl) rfl rfl (ex_por_t rfl rfl hg2796) ?_
            refine ops_nil ?_
            exact at_meet [(0, p0), (10, p0), (11, .int .i64 (x0.length : Int)), (12, .int .i64 a2756), (4, .pointer (some ⟨b2781, 0, none⟩)), (3, .int .i64 a2756), (26, .bool ((!t2791) || (!t2793)))] ⟨rfl, HM⟩ (Sub.cons rfl (Sub.cons rfl (Sub.cons rfl (Sub.cons rfl (Sub.cons rfl (Sub.cons rfl (Sub.cons rfl Sub.nil)))))))
          · skip
            refine ops_ex rfl (guard_on rfl rfl rfl hg2796) rfl rfl (ex_fieldAddr (off' := 1) rfl rfl Try.underlying38 rfl tsz36 rfl) ?_
            refine ops_ex rfl (guard_on rfl rfl rfl hg2796) rfl rfl (ex_loadN (cs := [(.int .i64 ((gt x0 a2756).fRef.fTx)), (.int .i64 ((gt x0 a2756).fRef.fAt))]) rfl rfl Try.underlying36 rfl tsz36 rfl ((HM.box_at 0 rfl).sub 1 2 rfl)) ?_
            refine ops_does rfl (guard_on rfl rfl rfl hg2796) rfl rfl (does_callk rfl callok63 rfl (impl_isRef.calls (x0 := (gt x0 a2756).fRef) (cond_t (not_mk hg2796) h2794))) ?_
            rintro _ w2798 ⟨rfl, hn⟩
            replace HM : Mem w [] w2798 [box b2781 38 [.int .i64 ((gt x0 a2756).fKey), .int .i64 ((gt x0 a2756).fRef.fTx), .int .i64 ((gt x0 a2756).fRef.fAt)]] := HM.call hn
            refine ops_ex rfl (guard_on rfl rfl rfl hg2796) rfl rfl (ex_not rfl rfl) ?_
            refine ops_ex (v := .bool ((!t2791) || (!t2793))) rfl (guard_none rfl) rfl rfl (ex_por_f rfl rfl hg2796 rfl) ?_
            refine ops_nil ?_
            exact at_meet [(0, p0), (10, p0), (11, .int .i64 (x0.length : Int)), (12, .int .i64 a2756), (4, .pointer (some ⟨b2781, 0, none⟩)), (3, .int .i64 a2756), (26, .bool ((!t2791) || (!t2793)))] ⟨rfl, HM⟩ (Sub.cons rfl (Sub.cons rfl (Sub.cons rfl (Sub.cons rfl (Sub.cons rfl (Sub.cons rfl (Sub.cons rfl Sub.nil)))))))
        · rintro _ w2799 ⟨rfl, HM⟩
          refine at_then ?_
          refine run_cond (b := ((!t2791) || (!t2793))) rfl (fun hb2800 => ?_) (fun hb2800 => ?_)
          · replace ho2736 := cond_t hb2800 ho2736
            refine run_seq ?_
            refine run_region rfl ?_
            refine ox rfl rfl rfl rfl (ex_assign rfl rfl) ?_
            refine ops_nil (at_then ?_)
            refine run_ret ?_
            refine at_then_ret ?_
            refine at_block_ret ?_
            refine at_then_ret ?_
            refine at_then_ret ?_
            refine at_block_ret ?_
            refine at_then_ret ?_
            replace HM := (HM.front 0 rfl rfl).drop
            have hR := Option.some.inj ho2736
            subst hR
            have hT := thn_inl H
            have hR := Option.some.inj hT
            subst hR
            exact at_ret1 rfl rfl ⟨_, rfl, rfl, HM⟩
          · replace ho2736 := cond_f hb2800 ho2736
            refine run_skip ?_
            refine at_then ?_
            refine run_seq ?_
            obtain ⟨e2801, ho2736⟩ := chk_some ho2736
            refine run_meet (fun ρ_ w_ => ρ_ = [(0, p0), (10, p0), (11, .int .i64 (x0.length : Int)), (12, .int .i64 a2756), (39, .bool ((decide (0 < a2756)) && (decide (((gt x0 a2756).fKey) ≤ ((gt x0 (wrap64 (a2756 - 1))).fKey)))))] ∧ Mem w [] w_ []) ?_ ?_
            · skip
              refine run_drawf (fun w_ => Mem w [] w_ [box b2781 38 [.int .i64 ((gt x0 a2756).fKey), .int .i64 ((gt x0 a2756).fRef.fTx), .int .i64 ((gt x0 a2756).fRef.fAt)]]) [(0, true), (1, true), (2, true), (3, true), (4, true), (5, true), (6, true), (7, true), (8, true), (9, true), (10, true), (11, true), (12, true)] mixed rfl rfl (by kernel_rfl) ?_
              replace HM := HM.grow (fr_drew _)
              have hS := Mem.suf (M := []) HM
              refine dp rfl rfl rfl rfl (ex_move rfl rfl) hS ?_
              refine dp rfl rfl rfl rfl (ex_gtr rfl rfl rfl) hS ?_
              refine dp rfl rfl rfl rfl (ex_move rfl rfl) hS ?_
              refine bool_cases (decide (0 < a2756)) (fun hg2803 => ?_) (fun hg2803 => ?_)
              · skip
                refine drwp_take rfl (guard_on rfl rfl rfl hg2803) rfl rfl (fun w_ hS_ => (ex_fieldAddr (off' := 0) rfl rfl Try.underlying38 rfl tsz2 rfl)) hS ?_
                refine drwp_take rfl (guard_on rfl rfl rfl hg2803) rfl rfl (fun w_ hS_ => (ex_load1 rfl rfl Try.underlying2 rfl ((hS_.box_at 0 rfl) 0 _ rfl))) hS ?_
                refine drwp_take rfl (guard_on rfl rfl rfl hg2803) rfl rfl (fun w_ hS_ => (ex_move rfl rfl)) hS ?_
                refine drwp_take rfl (guard_on rfl rfl rfl hg2803) rfl rfl (fun w_ hS_ => (ex_move rfl rfl)) hS ?_
                refine drwp_take rfl (guard_on rfl rfl rfl hg2803) rfl rfl (fun w_ hS_ => (ex_sub rfl rfl rfl)) hS ?_
                have hc2802 : CellsAt _ (sb p0) (so p0 + (wrap64 (a2756 - 1)).toNat * 3) [(.int .i64 ((gt x0 (wrap64 (a2756 - 1))).fKey)), (.int .i64 ((gt x0 (wrap64 (a2756 - 1))).fRef.fTx)), (.int .i64 ((gt x0 (wrap64 (a2756 - 1))).fRef.fAt))] := rd_plain hp0 (or_t e2801 hg2803)
                refine drwp_take rfl (guard_on rfl rfl rfl hg2803) rfl rfl (fun w_ hS_ => (ex_indexAddr (d := kMember) rfl rfl rfl Try.underlying24 tsz38 hp0 (idx_lo (or_t e2801 hg2803)) (idx_hi (or_t e2801 hg2803)))) hS ?_
                refine drwp_take rfl (guard_on rfl rfl rfl hg2803) rfl rfl (fun w_ hS_ => (ex_fieldAddr (off' := so p0 + (wrap64 (a2756 - 1)).toNat * 3) rfl rfl Try.underlying38 rfl tsz2 rfl)) hS ?_
                refine drwp_take rfl (guard_on rfl rfl rfl hg2803) rfl rfl (fun w_ hS_ => (ex_load1 rfl rfl Try.underlying2 rfl ((hS_.at_ hc2802) 0 _ rfl))) hS ?_
                refine drwp_take rfl (guard_on rfl rfl rfl hg2803) rfl rfl (fun w_ hS_ => (ex_leq rfl rfl rfl)) hS ?_
                refine drwp_take (v := .bool ((decide (0 < a2756)) && (decide (((gt x0 a2756).fKey) ≤ ((gt x0 (wrap64 (a2756 - 1))).fKey))))) rfl (guard_none rfl) rfl rfl (fun w_ hS_ => (ex_pand_t rfl rfl hg2803 rfl)) hS ?_
                refine drwp_done ?_
                replace HM := (HM.front 0 rfl rfl).drop
                exact at_meet [(0, p0), (10, p0), (11, .int .i64 (x0.length : Int)), (12, .int .i64 a2756), (39, .bool ((decide (0 < a2756)) && (decide (((gt x0 a2756).fKey) ≤ ((gt x0 (wrap64 (a2756 - 1))).fKey)))))] ⟨rfl, HM⟩ (Sub.cons rfl (Sub.cons rfl (Sub.cons rfl (Sub.cons rfl (Sub.cons rfl Sub.nil)))))
              · skip
                refine drwp_off rfl (guard_off rfl rfl rfl hg2803) rfl rfl hS ?_
                refine drwp_off rfl (guard_off rfl rfl rfl hg2803) rfl rfl hS ?_
                refine drwp_off rfl (guard_off rfl rfl rfl hg2803) rfl rfl hS ?_
                refine drwp_off rfl (guard_off rfl rfl rfl hg2803) rfl rfl hS ?_
                refine drwp_off rfl (guard_off rfl rfl rfl hg2803) rfl rfl hS ?_
                refine drwp_off rfl (guard_off rfl rfl rfl hg2803) rfl rfl hS ?_
                refine drwp_off rfl (guard_off rfl rfl rfl hg2803) rfl rfl hS ?_
                refine drwp_off rfl (guard_off rfl rfl rfl hg2803) rfl rfl hS ?_
                refine drwp_off rfl (guard_off rfl rfl rfl hg2803) rfl rfl hS ?_
                have hg2804 : ((decide (0 < a2756)) && (decide (((gt x0 a2756).fKey) ≤ ((gt x0 (wrap64 (a2756 - 1))).fKey)))) = false := by simp only [hg2803, Bool.and_true, Bool.true_and, Bool.and_false, Bool.false_and, Bool.or_true, Bool.true_or, Bool.or_false, Bool.false_or, Bool.not_true, Bool.not_false, Bool.not_not]
                refine drwp_take (v := .bool ((decide (0 < a2756)) && (decide (((gt x0 a2756).fKey) ≤ ((gt x0 (wrap64 (a2756 - 1))).fKey))))) rfl (guard_none rfl) rfl rfl (fun w_ hS_ => (ex_pand_f rfl rfl hg2803)) hS ?_
                refine drwp_done ?_
                replace HM := (HM.front 0 rfl rfl).drop
                exact at_meet [(0, p0), (10, p0), (11, .int .i64 (x0.length : Int)), (12, .int .i64 a2756), (39, .bool ((decide (0 < a2756)) && (decide (((gt x0 a2756).fKey) ≤ ((gt x0 (wrap64 (a2756 - 1))).fKey)))))] ⟨rfl, HM⟩ (Sub.cons rfl (Sub.cons rfl (Sub.cons rfl (Sub.cons rfl (Sub.cons rfl Sub.nil)))))
            · rintro _ w2805 ⟨rfl, HM⟩
              refine at_then ?_
              refine run_cond (b := ((decide (0 < a2756)) && (decide (((gt x0 a2756).fKey) ≤ ((gt x0 (wrap64 (a2756 - 1))).fKey))))) rfl (fun hb2806 => ?_) (fun hb2806 => ?_)
              · replace ho2736 := cond_t hb2806 ho2736
                refine run_seq ?_
                refine run_region rfl ?_
                refine ox rfl rfl rfl rfl (ex_assign rfl rfl) ?_
                refine ops_nil (at_then ?_)
                refine run_ret ?_
                refine at_block_ret ?_
                refine at_then_ret ?_
                refine at_then_ret ?_
                refine at_block_ret ?_
                refine at_then_ret ?_
                have hR := Option.some.inj ho2736
                subst hR
                have hT := thn_inl H
                have hR := Option.some.inj hT
                subst hR
                exact at_ret1 rfl rfl ⟨_, rfl, rfl, HM⟩
              · replace ho2736 := cond_f hb2806 ho2736
                refine run_skip ?_
                refine at_block ?_
                refine at_then ?_
                refine run_region rfl ?_
                refine ox rfl rfl rfl rfl (ex_add rfl rfl rfl) ?_
                refine ox rfl rfl rfl rfl (ex_move rfl rfl) ?_
                refine ops_nil ?_
                exact at_again k2776 (ρ1 := [(0, p0), (10, p0), (11, .int .i64 (x0.length : Int)), (12, .int .i64 (wrap64 (a2756 + 1)))]) (Nat.lt_succ_self _) ⟨_, ho2736, rfl, HM⟩ (Sub.cons rfl (Sub.cons rfl (Sub.cons rfl (Sub.cons rfl Sub.nil))))
      · replace ho2736 := cond_f hb2778 ho2736
        refine run_exit ?_
        refine at_then_exit ?_
        refine at_then_exit ?_
        refine at_block_exit ?_
        exact at_mid (ρ' := [(0, p0)]) ⟨(Option.some.inj ho2736), rfl, HM⟩ (Sub.cons rfl Sub.nil)
    · rintro _ w2807 ⟨rfl, rfl, HM⟩
      replace H := (thn_inr H)
      obtain ⟨o2848, ho2849, H⟩ := bind_some H
      refine run_mid (fun ρ_ w_ => Sum.inr () = o2848 ∧ ρ_ = [] ∧ Mem w [] w_ []) ?_ ?_
      · skip
        refine run_seq ?_
        refine run_region rfl ?_
        refine ox rfl rfl rfl rfl (ex_move rfl rfl) ?_
        refine ox rfl rfl rfl rfl (ex_len (d := kMember) (xs := x0) rfl rfl Try.underlying24 hp0) ?_
        refine ox rfl rfl rfl rfl (ex_move rfl rfl) ?_
        refine ops_nil (at_then ?_)
        refine run_block ?_
        refine run_loop (fun k_ ρ_ w_ => ∃ a2863 : Int, impl_MembersFault.l1 x0 k_ a2863 = some o2848 ∧ ρ_ = [(0, p0), (41, p0), (42, .int .i64 (x0.length : Int)), (43, .int .i64 a2863)] ∧ Mem w [] w_ []) k (ρ1 := [(0, p0), (41, p0), (42, .int .i64 (x0.length : Int)), (43, .int .i64 0)]) ⟨_, ho2849, rfl, HM⟩ (Sub.cons rfl (Sub.cons rfl (Sub.cons rfl (Sub.cons rfl Sub.nil)))) ?_
        clear HM ho2849
        rintro k2877 _ w2878 ⟨a2863, ho2849, rfl, HM⟩
        obtain _ | k2877 := k2877
        · exact nomatch ((impl_MembersFault.l1_z x0 a2863).symm.trans ho2849)
        replace ho2849 := (impl_MembersFault.l1_s x0 k2877 a2863).symm.trans ho2849
        refine run_seq ?_
        refine run_region rfl ?_
        refine ox rfl rfl rfl rfl (ex_lss rfl rfl rfl) ?_
        refine ops_nil (at_then (run_seq ?_))
        refine run_cond (b := (decide (a2863 < (x0.length : Int)))) rfl (fun hb2879 => ?_) (fun hb2879 => ?_)
        · replace ho2849 := cond_t hb2879 ho2849
          refine run_skip ?_
          refine at_then ?_
          refine run_seq ?_
          refine run_block ?_
          refine run_seq ?_
          obtain ⟨e2880, ho2849⟩ := chk_some ho2849
          refine run_region rfl ?_
          refine ox rfl rfl rfl rfl (ex_move rfl rfl) ?_
          have hc2881 : CellsAt _ (sb p0) (so p0 + (a2863).toNat * 3) [(.int .i64 ((gt x0 a2863).fKey)), (.int .i64 ((gt x0 a2863).fRef.fTx)), (.int .i64 ((gt x0 a2863).fRef.fAt))] := rd_plain hp0 e2880
          refine ox rfl rfl rfl rfl (ex_indexAddr (d := kMember) rfl rfl rfl Try.underlying24 tsz38 hp0 (idx_lo e2880) (idx_hi e2880)) ?_
          refine ox rfl rfl rfl rfl (ex_loadN (cs := [(.int .i64 ((gt x0 a2863).fKey)), (.int .i64 ((gt x0 a2863).fRef.fTx)), (.int .i64 ((gt x0 a2863).fRef.fAt))]) rfl rfl Try.underlying38 rfl tsz38 rfl ((HM.at_ hc2881).sub 0 3 rfl)) ?_
          refine od rfl rfl rfl rfl (does_alloc (cs := [.int .i64 0, .int .i64 0, .int .i64 0]) rfl tz38 rfl HM) ?_
          rintro _ w2885 ⟨b2882, rfl, HM⟩
          refine ox rfl rfl rfl rfl (ex_assign rfl rfl) ?_
          refine odS rfl rfl rfl (does_store (vs := [.int .i64 ((gt x0 a2863).fKey), .int .i64 ((gt x0 a2863).fRef.fTx), .int .i64 ((gt x0 a2863).fRef.fAt)]) (cs' := [.int .i64 ((gt x0 a2863).fKey), .int .i64 ((gt x0 a2863).fRef.fTx), .int .i64 ((gt x0 a2863).fRef.fAt)]) rfl rfl rfl rfl tsz38 (Ones.int (Ones.int (Ones.int Ones.nil))) rfl rfl HM) ?_
          rintro w2886 HM
          refine ops_nil (at_then (run_seq ?_))
          obtain ⟨e2887, ho2849⟩ := chk_some ho2849
          obtain ⟨t2891, h2892, ho2849⟩ := bind_some ho2849
          refine run_region rfl ?_
          refine ox rfl rfl rfl rfl (ex_move rfl rfl) ?_
          refine ox rfl rfl rfl rfl (ex_move rfl rfl) ?_
          refine ops_exE rfl (guard_none rfl) rfl rfl (ex_cutH kMember rfl rfl rfl Try.underlying24 tsz38 hp0 e2887) ?_
          rintro u2888 hr2890
          refine ox rfl rfl rfl rfl (ex_func rfl rfl) ?_
          refine od rfl rfl rfl rfl (does_callk rfl callok64 rfl (slices_ContainsFunc_impl_Member.calls (x0 := x0.take (a2863).toNat) (x1_0 := (gt x0 a2863)) (HM.rd hr2890) (HM.box_at 0 rfl) h2892)) ?_
          rintro _ w2893 ⟨rfl, hn⟩
          replace HM : Mem w [] w2893 [box b2882 38 [.int .i64 ((gt x0 a2863).fKey), .int .i64 ((gt x0 a2863).fRef.fTx), .int .i64 ((gt x0 a2863).fRef.fAt)]] := HM.call hn
          refine ops_nil (at_then ?_)
          refine run_cond (b := t2891) rfl (fun hb2894 => ?_) (fun hb2894 => ?_)
          · replace ho2849 := cond_t hb2894 ho2849
            refine run_seq ?_
            refine run_region rfl ?_
            refine ox rfl rfl rfl rfl (ex_assign rfl rfl) ?_
            refine ops_nil (at_then ?_)
            refine run_ret ?_
            refine at_block_ret ?_
            refine at_then_ret ?_
            refine at_then_ret ?_
            refine at_block_ret ?_
            refine at_then_ret ?_
            replace HM := (HM.front 0 rfl rfl).drop
            have hR := Option.some.inj ho2849
            subst hR
            have hT := thn_inl H
            have hR := Option.some.inj hT
            subst hR
            exact at_ret1 rfl rfl ⟨_, rfl, rfl, HM⟩
          · replace ho2849 := cond_f hb2894 ho2849
            refine run_skip ?_
            refine at_block ?_
            refine at_then ?_
            refine run_region rfl ?_
            refine ox rfl rfl rfl rfl (ex_add rfl rfl rfl) ?_
            refine ox rfl rfl rfl rfl (ex_move rfl rfl) ?_
            refine ops_nil ?_
            replace HM := (HM.front 0 rfl rfl).drop
            exact at_again k2877 (ρ1 := [(0, p0), (41, p0), (42, .int .i64 (x0.length : Int)), (43, .int .i64 (wrap64 (a2863 + 1)))]) (Nat.lt_succ_self _) ⟨_, ho2849, rfl, HM⟩ (Sub.cons rfl (Sub.cons rfl (Sub.cons rfl (Sub.cons rfl Sub.nil))))
        · replace ho2849 := cond_f hb2879 ho2849
          refine run_exit ?_
          refine at_then_exit ?_
          refine at_then_exit ?_
          refine at_block_exit ?_
          exact at_mid (ρ' := []) ⟨(Option.some.inj ho2849), rfl, HM⟩ Sub.nil
      · rintro _ w2895 ⟨rfl, rfl, HM⟩
        replace H := (thn_inr H)
        refine run_seq ?_
        refine run_region rfl ?_
        refine ox rfl rfl rfl rfl (ex_assign rfl rfl) ?_
        refine ops_nil (at_then ?_)
        refine run_ret ?_
        have hR := Option.some.inj H
        subst hR
        exact at_ret1 rfl rfl ⟨_, rfl, rfl, HM⟩
end Go.Proofs.Ytbbcabpnkdilgaa.Zk
