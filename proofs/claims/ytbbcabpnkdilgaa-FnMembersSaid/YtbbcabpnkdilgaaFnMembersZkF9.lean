/- What functions of the program compute, each as a plain function, and that they do. Conditions: as each theorem states them. -/
import Derived.Test.YtbbcabpnkdilgaaFnMembersZkF8
namespace Go.Proofs.Ytbbcabpnkdilgaa.Zk
open Go Go.RowKit Go.IntWalk Go.Proofs
set_option linter.unusedVariables false
set_option linter.unusedSimpArgs false
set_option maxRecDepth 100000
set_option maxHeartbeats 4000000
def spec_l6Take.l0 (x0 : List Member) (x1 : Tx) : Nat → (List Member) → Int → Option ((List Member))
  | 0, _, _ => none
  | k + 1, a6162, a6164 => (bif (decide (a6164 < (x0.length : Int))) then (chk (!(x1.fKind == 2) || (idxOk a6164 x0.length)) (chk (!(!((x1.fKind == 2) && (((gt x0 a6164).fKey) == x1.fMember))) || (idxOk a6164 x0.length)) ((bif !((x1.fKind == 2) && (((gt x0 a6164).fKey) == x1.fMember)) then spec_l3Among.f k x1.fIns ((gt x0 a6164).fRef) else some default).bind fun t6191 => (bif ((!((x1.fKind == 2) && (((gt x0 a6164).fKey) == x1.fMember))) && (!t6191)) then (chk (idxOk a6164 x0.length) (chk (leB ((a6162.length + ([(gt x0 a6164)] : List Member).length) * 24) 140737488355328) (spec_l6Take.l0 x0 x1 k (a6162 ++ ([(gt x0 a6164)] : List Member)) (wrap64 (a6164 + 1))))) else spec_l6Take.l0 x0 x1 k a6162 (wrap64 (a6164 + 1)))))) else some a6162)
theorem spec_l6Take.l0_z (x0 : List Member) (x1 : Tx) (a6162 : List Member) (a6164 : Int) : spec_l6Take.l0 x0 x1 0 a6162 a6164 = none := rfl
theorem spec_l6Take.l0_s (x0 : List Member) (x1 : Tx) (k : Nat) (a6162 : List Member) (a6164 : Int) : spec_l6Take.l0 x0 x1 (k + 1) a6162 a6164 = (bif (decide (a6164 < (x0.length : Int))) then (chk (!(x1.fKind == 2) || (idxOk a6164 x0.length)) (chk (!(!((x1.fKind == 2) && (((gt x0 a6164).fKey) == x1.fMember))) || (idxOk a6164 x0.length)) ((bif !((x1.fKind == 2) && (((gt x0 a6164).fKey) == x1.fMember)) then spec_l3Among.f k x1.fIns ((gt x0 a6164).fRef) else some default).bind fun t6191 => (bif ((!((x1.fKind == 2) && (((gt x0 a6164).fKey) == x1.fMember))) && (!t6191)) then (chk (idxOk a6164 x0.length) (chk (leB ((a6162.length + ([(gt x0 a6164)] : List Member).length) * 24) 140737488355328) (spec_l6Take.l0 x0 x1 k (a6162 ++ ([(gt x0 a6164)] : List Member)) (wrap64 (a6164 + 1))))) else spec_l6Take.l0 x0 x1 k a6162 (wrap64 (a6164 + 1)))))) else some a6162) := rfl
def spec_l6Take.f (k : Nat) (x0 : List Member) (x1 : Tx) (x2 : Int) : Option ((List Member) × Int) := ((bif (x1.fKind == 2) then spec_l6At.f k x0 x1.fMember else some default).bind fun t6076 => (bif ((x1.fKind == 2) && (decide (t6076 < 0))) then some (([] : List Member), 4) else ((spec_l6Take.l0 x0 x1 k ([] : List Member) 0).bind (fun a6141 => (bif (x1.fKind != 1) then some (a6141, 0) else ((spec_l6Join.f k a6141 (⟨x1.fMember, (⟨x2, 0⟩ : Ref)⟩ : Member)).bind fun t6211 => some (t6211.1, t6211.2)))))))
theorem spec_l6Take.calls {k : Nat} {x0 : List Member} {x1 : Tx} {x2 : Int} {p0 : Value} {b1 f1 : Nat} {p1_0 : Value} {p1_1 : Value} {w : World} (hp0 : RdS kMember w p0 x0) (hc1 : CellsAt w b1 f1 [.int .i64 x1.fKind, .int .i64 x1.fMember, p1_0, p1_1]) (hp1_0 : RdS kRef w p1_0 x1.fIns) (hp1_1 : RdS kOut w p1_1 x1.fOuts) {r : (List Member) × Int} (H : spec_l6Take.f k x0 x1 x2 = some r) :
    Calls Try.prog 59 ([p0, .pointer (some ⟨b1, f1, none⟩), .int .i64 x2] : List Value).toArray w (fun e w_ => ∃ v, e = .returned v ∧ ∃ u0 : Value, v = (.tuple #[u0, .int .i64 r.2]) ∧ Mem w [] w_ [own kMember 38 u0 r.1]) := by
  have HM := Mem.start w
  refine calls_run (N := 88) Try.func59 rfl rfl rfl rfl ?_
  unfold spec_l6Take.f at H
  refine run_seq ?_
  refine run_region rfl ?_
  refine ox rfl rfl rfl rfl (ex_assign rfl rfl) ?_
  refine ox rfl rfl rfl rfl (ex_assign rfl rfl) ?_
  refine ops_nil (at_then (run_seq ?_))
  refine run_seq ?_
  obtain ⟨t6076, h6077, H⟩ := bind_some H
  refine run_meet (fun ρ_ w_ => ρ_ = [(0, p0), (1, .pointer (some ⟨b1, f1, none⟩)), (2, .int .i64 x2), (24, .bool ((x1.fKind == 2) && (decide (t6076 < 0))))] ∧ Mem w [] w_ []) ?_ ?_
  · skip
    refine run_region rfl ?_
    refine ox rfl rfl rfl rfl (ex_move rfl rfl) ?_
    refine ox rfl rfl rfl rfl (ex_nilCheck rfl rfl) ?_
    refine ox rfl rfl rfl rfl (ex_fieldAddr (off' := f1) rfl rfl Try.underlying28 rfl tsz2 rfl) ?_
    refine ox rfl rfl rfl rfl (ex_load1 rfl rfl Try.underlying2 rfl ((HM.at_ hc1) 0 _ rfl)) ?_
    refine ox rfl rfl rfl rfl (ex_eql rfl rfl rfl) ?_
    refine ox rfl rfl rfl rfl (ex_move rfl rfl) ?_
    refine bool_cases (x1.fKind == 2) (fun hg6078 => ?_) (fun hg6078 => ?_)
    · skip
      refine ops_ex rfl (guard_on rfl rfl rfl hg6078) rfl rfl (ex_move rfl rfl) ?_
      refine ops_ex rfl (guard_on rfl rfl rfl hg6078) rfl rfl (ex_move rfl rfl) ?_
      refine ops_ex rfl (guard_on rfl rfl rfl hg6078) rfl rfl (ex_nilCheck rfl rfl) ?_
      refine ops_ex rfl (guard_on rfl rfl rfl hg6078) rfl rfl (ex_fieldAddr (off' := f1 + 1) rfl rfl Try.underlying28 rfl tsz2 rfl) ?_
      refine ops_ex rfl (guard_on rfl rfl rfl hg6078) rfl rfl (ex_load1 rfl rfl Try.underlying2 rfl ((HM.at_ hc1) 1 _ rfl)) ?_
      refine ops_does rfl (guard_on rfl rfl rfl hg6078) rfl rfl (does_callk rfl callok119 rfl (spec_l6At.calls (x0 := x0) (x1 := x1.fMember) (HM.rd hp0) (cond_t hg6078 h6077))) ?_
      rintro _ w6079 ⟨rfl, hn⟩
      replace HM : Mem w [] w6079 [] := HM.call hn
      refine ops_ex rfl (guard_on rfl rfl rfl hg6078) rfl rfl (ex_lss rfl rfl rfl) ?_
      refine ops_ex (v := .bool ((x1.fKind == 2) && (decide (t6076 < 0)))) rfl (guard_none rfl) rfl rfl (ex_pand_t rfl rfl hg6078 rfl) ?_
      refine ops_nil ?_
      exact at_meet [(0, p0), (1, .pointer (some ⟨b1, f1, none⟩)), (2, .int .i64 x2), (24, .bool ((x1.fKind == 2) && (decide (t6076 < 0))))] ⟨rfl, HM⟩ (Sub.cons rfl (Sub.cons rfl (Sub.cons rfl (Sub.cons rfl Sub.nil))))
    · skip
      refine ops_off rfl (guard_off rfl rfl rfl hg6078) rfl rfl ?_
      refine ops_off rfl (guard_off rfl rfl rfl hg6078) rfl rfl ?_
      refine ops_off rfl (guard_off rfl rfl rfl hg6078) rfl rfl ?_
      refine ops_off rfl (guard_off rfl rfl rfl hg6078) rfl rfl ?_
      refine ops_off rfl (guard_off rfl rfl rfl hg6078) rfl rfl ?_
      refine ops_off rfl (guard_off rfl rfl rfl hg6078) rfl rfl ?_
      refine ops_off rfl (guard_off rfl rfl rfl hg6078) rfl rfl ?_
      have hg6080 : ((x1.fKind == 2) && (decide (t6076 < 0))) = false := by simp only [hg6078, Bool.and_true, Bool.true_and, Bool.and_false, Bool.false_and, Bool.or_true, Bool.true_or, Bool.or_false, Bool.false_or, Bool.not_true, Bool.not_false, Bool.not_not]
      refine ops_ex (v := .bool ((x1.fKind == 2) && (decide (t6076 < 0)))) rfl (guard_none rfl) rfl rfl (ex_pand_f rfl rfl hg6078) ?_
      refine ops_nil ?_
      exact at_meet [(0, p0), (1, .pointer (some ⟨b1, f1, none⟩)), (2, .int .i64 x2), (24, .bool ((x1.fKind == 2) && (decide (t6076 < 0))))] ⟨rfl, HM⟩ (Sub.cons rfl (Sub.cons rfl (Sub.cons rfl (Sub.cons rfl Sub.nil))))
  · rintro _ w6081 ⟨rfl, HM⟩
    refine at_then ?_
    refine run_cond (b := ((x1.fKind == 2) && (decide (t6076 < 0)))) rfl (fun hb6082 => ?_) (fun hb6082 => ?_)
    · replace H := cond_t hb6082 H
      refine run_seq ?_
      refine run_region rfl ?_
      refine ox rfl rfl rfl rfl (ex_assign rfl rfl) ?_
      refine ox rfl rfl rfl rfl (ex_assign rfl rfl) ?_
      refine ops_nil (at_then ?_)
      refine run_ret ?_
      refine at_then_ret ?_
      replace HM := HM.empty kMember 38 none
      have hR := Option.some.inj H
      subst hR
      exact at_ret2 rfl rfl rfl ⟨_, rfl, _, rfl, HM⟩
    · replace H := cond_f hb6082 H
      refine run_skip ?_
      refine at_then ?_
      refine run_seq ?_
      refine run_region rfl ?_
      refine od rfl rfl rfl rfl (does_lit (e := 38) (cs := []) (xs := ([] : List Member)) kMember rfl rfl (fun _ => by kernel_rfl) rfl rfl (fun _ _ h => by have h' : _ = [] := h; subst h'; exact .nil) HM.emp) ?_
      rintro v6084 w6087 HM
      refine ox rfl rfl rfl rfl (ex_assign rfl rfl) ?_
      refine ops_nil (at_then ?_)
      obtain ⟨o6143, ho6144, H⟩ := bind_some H
      refine run_mid (fun ρ_ w_ => ∃ v6140 : Value, ∃ a6141 : List Member, a6141 = o6143 ∧ ρ_ = [(1, .pointer (some ⟨b1, f1, none⟩)), (2, .int .i64 x2), (8, v6140)] ∧ Mem w [] w_ [own kMember 38 v6140 a6141]) ?_ ?_
      · clear H
        refine run_seq ?_
        refine run_region rfl ?_
        refine ox rfl rfl rfl rfl (ex_assign rfl rfl) ?_
        refine ops_nil (at_then ?_)
        refine run_block ?_
        refine run_loop (fun k_ ρ_ w_ => ∃ v6161 : Value, ∃ a6162 : List Member, ∃ a6164 : Int, spec_l6Take.l0 x0 x1 k_ a6162 a6164 = some o6143 ∧ ρ_ = [(0, p0), (1, .pointer (some ⟨b1, f1, none⟩)), (2, .int .i64 x2), (8, v6161), (9, .int .i64 a6164)] ∧ Mem w [] w_ [own kMember 38 v6161 a6162]) k (ρ1 := [(0, p0), (1, .pointer (some ⟨b1, f1, none⟩)), (2, .int .i64 x2), (8, v6084), (9, .int .i64 0)]) ⟨_, _, _, ho6144, rfl, HM⟩ (Sub.cons rfl (Sub.cons rfl (Sub.cons rfl (Sub.cons rfl (Sub.cons rfl Sub.nil))))) ?_
        clear HM ho6144
        rintro k6181 _ w6182 ⟨v6161, a6162, a6164, ho6144, rfl, HM⟩
        obtain _ | k6181 := k6181
        · exact nomatch ((spec_l6Take.l0_z x0 x1 a6162 a6164).symm.trans ho6144)
        replace ho6144 := (spec_l6Take.l0_s x0 x1 k6181 a6162 a6164).symm.trans ho6144
        refine run_seq ?_
        refine run_seq ?_
        refine run_region rfl ?_
        refine ox rfl rfl rfl rfl (ex_move rfl rfl) ?_
        refine ox rfl rfl rfl rfl (ex_move rfl rfl) ?_
        refine ox rfl rfl rfl rfl (ex_len (d := kMember) (xs := x0) rfl rfl Try.underlying24 hp0) ?_
        refine ox rfl rfl rfl rfl (ex_lss rfl rfl rfl) ?_
        refine ops_nil (at_then ?_)
        refine run_cond (b := (decide (a6164 < (x0.length : Int)))) rfl (fun hb6183 => ?_) (fun hb6183 => ?_)
        · replace ho6144 := cond_t hb6183 ho6144
          refine run_skip ?_
          refine at_then ?_
          refine run_seq ?_
          refine run_block ?_
          refine run_seq ?_
          obtain ⟨e6184, ho6144⟩ := chk_some ho6144
          refine run_meet (fun ρ_ w_ => ρ_ = [(0, p0), (1, .pointer (some ⟨b1, f1, none⟩)), (2, .int .i64 x2), (8, v6161), (9, .int .i64 a6164), (10, .bool ((x1.fKind == 2) && (((gt x0 a6164).fKey) == x1.fMember)))] ∧ Mem w [] w_ [own kMember 38 v6161 a6162]) ?_ ?_
          · skip
            refine run_drawf (fun w_ => Mem w [] w_ [own kMember 38 v6161 a6162]) [(0, true), (1, true), (2, true), (3, true), (4, true), (5, true), (6, true), (7, true), (8, true), (9, true), (10, true), (11, true), (12, true), (13, true), (14, true), (15, true), (16, true), (17, true)] mixed rfl rfl (by kernel_rfl) ?_
            replace HM := HM.grow (fr_drew _)
            have hS := Mem.suf (M := []) HM
            refine dp rfl rfl rfl rfl (ex_move rfl rfl) hS ?_
            refine dp rfl rfl rfl rfl (ex_nilCheck rfl rfl) hS ?_
            refine dp rfl rfl rfl rfl (ex_fieldAddr (off' := f1) rfl rfl Try.underlying28 rfl tsz2 rfl) hS ?_
            refine drwp_take rfl (guard_none rfl) rfl rfl (fun w_ hS_ => (ex_load1 rfl rfl Try.underlying2 rfl ((hS_.at_ hc1) 0 _ rfl))) hS ?_
            refine dp rfl rfl rfl rfl (ex_eql rfl rfl rfl) hS ?_
            refine dp rfl rfl rfl rfl (ex_move rfl rfl) hS ?_
            refine bool_cases (x1.fKind == 2) (fun hg6186 => ?_) (fun hg6186 => ?_)
            · skip
              refine drwp_take rfl (guard_on rfl rfl rfl hg6186) rfl rfl (fun w_ hS_ => (ex_move rfl rfl)) hS ?_
              refine drwp_take rfl (guard_on rfl rfl rfl hg6186) rfl rfl (fun w_ hS_ => (ex_move rfl rfl)) hS ?_
              have hc6185 : CellsAt _ (sb p0) (so p0 + (a6164).toNat * 3) [(.int .i64 ((gt x0 a6164).fKey)), (.int .i64 ((gt x0 a6164).fRef.fTx)), (.int .i64 ((gt x0 a6164).fRef.fAt))] := rd_plain hp0 (or_t e6184 hg6186)
              refine drwp_take rfl (guard_on rfl rfl rfl hg6186) rfl rfl (fun w_ hS_ => (ex_indexAddr (d := kMember) rfl rfl rfl Try.underlying24 tsz38 hp0 (idx_lo (or_t e6184 hg6186)) (idx_hi (or_t e6184 hg6186)))) hS ?_
              refine drwp_take rfl (guard_on rfl rfl rfl hg6186) rfl rfl (fun w_ hS_ => (ex_fieldAddr (off' := so p0 + (a6164).toNat * 3) rfl rfl Try.underlying38 rfl tsz2 rfl)) hS ?_
              refine drwp_take rfl (guard_on rfl rfl rfl hg6186) rfl rfl (fun w_ hS_ => (ex_load1 rfl rfl Try.underlying2 rfl ((hS_.at_ hc6185) 0 _ rfl))) hS ?_
              refine drwp_take rfl (guard_on rfl rfl rfl hg6186) rfl rfl (fun w_ hS_ => (ex_move rfl rfl)) hS ?_
              refine drwp_take rfl (guard_on rfl rfl rfl hg6186) rfl rfl (fun w_ hS_ => (ex_nilCheck rfl rfl)) hS ?_
              refine drwp_take rfl (guard_on rfl rfl rfl hg6186) rfl rfl (fun w_ hS_ => (ex_fieldAddr (off' := f1 + 1) rfl rfl Try.underlying28 rfl tsz2 rfl)) hS ?_
              refine drwp_take rfl (guard_on rfl rfl rfl hg6186) rfl rfl (fun w_ hS_ => (ex_load1 rfl rfl Try.underlying2 rfl ((hS_.at_ hc1) 1 _ rfl))) hS ?_
              refine drwp_take rfl (guard_on rfl rfl rfl hg6186) rfl rfl (fun w_ hS_ => (ex_eql rfl rfl rfl)) hS ?_
              refine drwp_take (v := .bool ((x1.fKind == 2) && (((gt x0 a6164).fKey) == x1.fMember))) rfl (guard_none rfl) rfl rfl (fun w_ hS_ => (ex_pand_t rfl rfl hg6186 rfl)) hS ?_
              refine dp rfl rfl rfl rfl (ex_assign rfl rfl) hS ?_
              refine drwp_done ?_
              exact at_meet [(0, p0), (1, .pointer (some ⟨b1, f1, none⟩)), (2, .int .i64 x2), (8, v6161), (9, .int .i64 a6164), (10, .bool ((x1.fKind == 2) && (((gt x0 a6164).fKey) == x1.fMember)))] ⟨rfl, HM⟩ (Sub.cons rfl (Sub.cons rfl (Sub.cons rfl (Sub.cons rfl (Sub.cons rfl (Sub.cons rfl Sub.nil))))))
            · skip
              refine drwp_off rfl (guard_off rfl rfl rfl hg6186) rfl rfl hS ?_
              refine drwp_off rfl (guard_off rfl rfl rfl hg6186) rfl rfl hS ?_
              refine drwp_off rfl (guard_off rfl rfl rfl hg6186) rfl rfl hS ?_
              refine drwp_off rfl (guard_off rfl rfl rfl hg6186) rfl rfl hS ?_
              refine drwp_off rfl (guard_off rfl rfl rfl hg6186) rfl rfl hS ?_
              refine drwp_off rfl (guard_off rfl rfl rfl hg6186) rfl rfl hS ?_
              refine drwp_off rfl (guard_off rfl rfl rfl hg6186) rfl rfl hS ?_
              refine drwp_off rfl (guard_off rfl rfl rfl hg6186) rfl rfl hS ?_
              refine drwp_off rfl (guard_off rfl rfl rfl hg6186) rfl rfl hS ?_
              refine drwp_off rfl (guard_off rfl rfl rfl hg6186) rfl rfl hS ?_
              have hg6187 : ((x1.fKind == 2) && (((gt x0 a6164).fKey) == x1.fMember)) = false := by simp only [hg6186, Bool.and_true, Bool.true_and, Bool.and_false, Bool.false_and, Bool.or_true, Bool.true_or, Bool.or_false, Bool.false_or, Bool.not_true, Bool.not_false, Bool.not_not]
              refine drwp_take (v := .bool ((x1.fKind == 2) && (((gt x0 a6164).fKey) == x1.fMember))) rfl (guard_none rfl) rfl rfl (fun w_ hS_ => (ex_pand_f rfl rfl hg6186)) hS ?_
              refine dp rfl rfl rfl rfl (ex_assign rfl rfl) hS ?_
              refine drwp_done ?_
              exact at_meet [(0, p0), (1, .pointer (some ⟨b1, f1, none⟩)), (2, .int .i64 x2), (8, v6161), (9, .int .i64 a6164), (10, .bool ((x1.fKind == 2) && (((gt x0 a6164).fKey) == x1.fMember)))] ⟨rfl, HM⟩ (Sub.cons rfl (Sub.cons rfl (Sub.cons rfl (Sub.cons rfl (Sub.cons rfl (Sub.cons rfl Sub.nil))))))
          · rintro _ w6188 ⟨rfl, HM⟩
            refine at_then ?_
            refine run_seq ?_
            obtain ⟨e6189, ho6144⟩ := chk_some ho6144
            obtain ⟨t6191, h6192, ho6144⟩ := bind_some ho6144
            refine run_meet (fun ρ_ w_ => ρ_ = [(0, p0), (1, .pointer (some ⟨b1, f1, none⟩)), (2, .int .i64 x2), (8, v6161), (9, .int .i64 a6164), (63, .bool ((!((x1.fKind == 2) && (((gt x0 a6164).fKey) == x1.fMember))) && (!t6191)))] ∧ Mem w [] w_ [own kMember 38 v6161 a6162]) ?_ ?_
            · skip
              refine run_drawf (fun w_ => Mem w [] w_ [own kMember 38 v6161 a6162]) [(0, true), (1, true), (2, true), (3, true), (4, true), (5, true), (6, true), (7, true), (8, true), (9, true), (10, true), (11, true), (12, false), (13, true), (14, true)] mixed rfl rfl (by kernel_rfl) ?_
              replace HM := HM.grow (fr_drew _)
              have hS := Mem.suf (M := []) HM
              refine dp rfl rfl rfl rfl (ex_move rfl rfl) hS ?_
              refine dp rfl rfl rfl rfl (ex_not rfl rfl) hS ?_
              refine dp rfl rfl rfl rfl (ex_move rfl rfl) hS ?_
              refine bool_cases (!((x1.fKind == 2) && (((gt x0 a6164).fKey) == x1.fMember))) (fun hg6193 => ?_) (fun hg6193 => ?_)
              · skip
                refine drwp_take rfl (guard_on rfl rfl rfl hg6193) rfl rfl (fun w_ hS_ => (ex_move rfl rfl)) hS ?_
                refine drwp_take rfl (guard_on rfl rfl rfl hg6193) rfl rfl (fun w_ hS_ => (ex_nilCheck rfl rfl)) hS ?_
                refine drwp_take rfl (guard_on rfl rfl rfl hg6193) rfl rfl (fun w_ hS_ => (ex_fieldAddr (off' := f1 + 2) rfl rfl Try.underlying28 rfl tsz25 rfl)) hS ?_
                refine drwp_take rfl (guard_on rfl rfl rfl hg6193) rfl rfl (fun w_ hS_ => (ex_load1 rfl rfl Try.underlying25 rfl ((hS_.at_ hc1) 2 _ rfl))) hS ?_
                refine drwp_take rfl (guard_on rfl rfl rfl hg6193) rfl rfl (fun w_ hS_ => (ex_move rfl rfl)) hS ?_
                refine drwp_take rfl (guard_on rfl rfl rfl hg6193) rfl rfl (fun w_ hS_ => (ex_move rfl rfl)) hS ?_
                have hc6190 : CellsAt _ (sb p0) (so p0 + (a6164).toNat * 3) [(.int .i64 ((gt x0 a6164).fKey)), (.int .i64 ((gt x0 a6164).fRef.fTx)), (.int .i64 ((gt x0 a6164).fRef.fAt))] := rd_plain hp0 (or_t e6189 hg6193)
                refine drwp_take rfl (guard_on rfl rfl rfl hg6193) rfl rfl (fun w_ hS_ => (ex_indexAddr (d := kMember) rfl rfl rfl Try.underlying24 tsz38 hp0 (idx_lo (or_t e6189 hg6193)) (idx_hi (or_t e6189 hg6193)))) hS ?_
                refine drwp_take rfl (guard_on rfl rfl rfl hg6193) rfl rfl (fun w_ hS_ => (ex_fieldAddr (off' := so p0 + (a6164).toNat * 3 + 1) rfl rfl Try.underlying38 rfl tsz36 rfl)) hS ?_
                refine drwp_take rfl (guard_on rfl rfl rfl hg6193) rfl rfl (fun w_ hS_ => (ex_loadN (cs := [(.int .i64 ((gt x0 a6164).fRef.fTx)), (.int .i64 ((gt x0 a6164).fRef.fAt))]) rfl rfl Try.underlying36 rfl tsz36 rfl ((hS_.at_ hc6190).sub 1 2 rfl))) hS ?_
                refine drwp_one rfl (guard_on rfl rfl rfl hg6193) rfl rfl (does_callk rfl callok104 rfl (spec_l3Among.calls (x0 := x1.fIns) (x1 := (gt x0 a6164).fRef) (HM.rd hp1_0) (cond_t hg6193 h6192))) ?_
                rintro _ w6194 ⟨rfl, hn⟩
                replace HM : Mem w [] w6194 [own kMember 38 v6161 a6162] := HM.call hn
                have hS := Mem.suf (M := []) HM
                refine ⟨hS, ?_⟩
                refine drwp_take rfl (guard_on rfl rfl rfl hg6193) rfl rfl (fun w_ hS_ => (ex_not rfl rfl)) hS ?_
                refine drwp_take (v := .bool ((!((x1.fKind == 2) && (((gt x0 a6164).fKey) == x1.fMember))) && (!t6191))) rfl (guard_none rfl) rfl rfl (fun w_ hS_ => (ex_pand_t rfl rfl hg6193 rfl)) hS ?_
                refine drwp_done ?_
                exact at_meet [(0, p0), (1, .pointer (some ⟨b1, f1, none⟩)), (2, .int .i64 x2), (8, v6161), (9, .int .i64 a6164), (63, .bool ((!((x1.fKind == 2) && (((gt x0 a6164).fKey) == x1.fMember))) && (!t6191)))] ⟨rfl, HM⟩ (Sub.cons rfl (Sub.cons rfl (Sub.cons rfl (Sub.cons rfl (Sub.cons rfl (Sub.cons rfl Sub.nil))))))
              · skip
                refine drwp_off rfl (guard_off rfl rfl rfl hg6193) rfl rfl hS ?_
                refine drwp_off rfl (guard_off rfl rfl rfl hg6193) rfl rfl hS ?_
                refine drwp_off rfl (guard_off rfl rfl rfl hg6193) rfl rfl hS ?_
                refine drwp_off rfl (guard_off rfl rfl rfl hg6193) rfl rfl hS ?_
                refine drwp_off rfl (guard_off rfl rfl rfl hg6193) rfl rfl hS ?_
                refine drwp_off rfl (guard_off rfl rfl rfl hg6193) rfl rfl hS ?_
                refine drwp_off rfl (guard_off rfl rfl rfl hg6193) rfl rfl hS ?_
                refine drwp_off rfl (guard_off rfl rfl rfl hg6193) rfl rfl hS ?_
                refine drwp_off rfl (guard_off rfl rfl rfl hg6193) rfl rfl hS ?_
                refine drwp_off1 rfl (guard_off rfl rfl rfl hg6193) rfl rfl ⟨hS, ?_⟩
                refine drwp_off rfl (guard_off rfl rfl rfl hg6193) rfl rfl hS ?_
                have hg6195 : ((!((x1.fKind == 2) && (((gt x0 a6164).fKey) == x1.fMember))) && (!t6191)) = false := by simp only [hg6193, Bool.and_true, Bool.true_and, Bool.and_false, Bool.false_and, Bool.or_true, Bool.true_or, Bool.or_false, Bool.false_or, Bool.not_true, Bool.not_false, Bool.not_not]
                refine drwp_take (v := .bool ((!((x1.fKind == 2) && (((gt x0 a6164).fKey) == x1.fMember))) && (!t6191))) rfl (guard_none rfl) rfl rfl (fun w_ hS_ => (ex_pand_f rfl rfl hg6193)) hS ?_
                refine drwp_done ?_
                exact at_meet [(0, p0), (1, .pointer (some ⟨b1, f1, none⟩)), (2, .int .i64 x2), (8, v6161), (9, .int .i64 a6164), (63, .bool ((!((x1.fKind == 2) && (((gt x0 a6164).fKey) == x1.fMember))) && (!t6191)))] ⟨rfl, HM⟩ (Sub.cons rfl (Sub.cons rfl (Sub.cons rfl (Sub.cons rfl (Sub.cons rfl (Sub.cons rfl Sub.nil))))))
            · rintro _ w6196 ⟨rfl, HM⟩
              refine at_then ?_
              refine run_cond (b := ((!((x1.fKind == 2) && (((gt x0 a6164).fKey) == x1.fMember))) && (!t6191))) rfl (fun hb6197 => ?_) (fun hb6197 => ?_)
              · replace ho6144 := cond_t hb6197 ho6144
                obtain ⟨e6198, ho6144⟩ := chk_some ho6144
                obtain ⟨e6203, ho6144⟩ := chk_some ho6144
                refine run_region rfl ?_
                refine ox rfl rfl rfl rfl (ex_move rfl rfl) ?_
                refine ox rfl rfl rfl rfl (ex_move rfl rfl) ?_
                refine ox rfl rfl rfl rfl (ex_move rfl rfl) ?_
                have hc6199 : CellsAt _ (sb p0) (so p0 + (a6164).toNat * 3) [(.int .i64 ((gt x0 a6164).fKey)), (.int .i64 ((gt x0 a6164).fRef.fTx)), (.int .i64 ((gt x0 a6164).fRef.fAt))] := rd_plain hp0 e6198
                refine ox rfl rfl rfl rfl (ex_indexAddr (d := kMember) rfl rfl rfl Try.underlying24 tsz38 hp0 (idx_lo e6198) (idx_hi e6198)) ?_
                refine ox rfl rfl rfl rfl (ex_loadN (cs := [(.int .i64 ((gt x0 a6164).fKey)), (.int .i64 ((gt x0 a6164).fRef.fTx)), (.int .i64 ((gt x0 a6164).fRef.fAt))]) rfl rfl Try.underlying38 rfl tsz38 rfl ((HM.at_ hc6199).sub 0 3 rfl)) ?_
                refine od rfl rfl rfl rfl (does_lit (e := 38) (cs := [.int .i64 ((gt x0 a6164).fKey), .int .i64 ((gt x0 a6164).fRef.fTx), .int .i64 ((gt x0 a6164).fRef.fAt)]) (xs := ([(gt x0 a6164)] : List Member)) kMember rfl rfl (fun _ => by kernel_rfl) rfl rfl (fun _ _ h => by have h' : _ = [] := h; subst h'; exact (Elems.cons (d := kMember) (x := (gt x0 a6164)) (f := []) ⟨rfl, rfl⟩ .nil)) HM.emp) ?_
                rintro v6200 w6206 HM
                replace HM := HM.front 1 rfl rfl
                refine od rfl rfl rfl rfl (does_appendR kMember flat_plain rfl rfl rfl Try.underlying24 tsz38 rfl tby38 tz38 rfl rfl (leB_le e6203) (HM.own_rd 1 rfl) HM) ?_
                rintro v6204 w6207 HM
                refine ox rfl rfl rfl rfl (ex_assign rfl rfl) ?_
                refine ops_nil ?_
                refine at_block ?_
                refine at_then ?_
                refine run_region rfl ?_
                refine ox rfl rfl rfl rfl (ex_move rfl rfl) ?_
                refine ox rfl rfl rfl rfl (ex_add rfl rfl rfl) ?_
                refine ox rfl rfl rfl rfl (ex_assign rfl rfl) ?_
                refine ops_nil ?_
                replace HM := (HM.front 1 rfl rfl).drop
                exact at_again k6181 (ρ1 := [(0, p0), (1, .pointer (some ⟨b1, f1, none⟩)), (2, .int .i64 x2), (8, v6204), (9, .int .i64 (wrap64 (a6164 + 1)))]) (Nat.lt_succ_self _) ⟨_, _, _, ho6144, rfl, HM⟩ (Sub.cons rfl (Sub.cons rfl (Sub.cons rfl (Sub.cons rfl (Sub.cons rfl Sub.nil)))))
              · replace ho6144 := cond_f hb6197 ho6144
                refine run_skip ?_
                refine at_block ?_
                refine at_then ?_
                refine run_region rfl ?_
                refine ox rfl rfl rfl rfl (ex_move rfl rfl) ?_
                refine ox rfl rfl rfl rfl (ex_add rfl rfl rfl) ?_
                refine ox rfl rfl rfl rfl (ex_assign rfl rfl) ?_
                refine ops_nil ?_
                exact at_again k6181 (ρ1 := [(0, p0), (1, .pointer (some ⟨b1, f1, none⟩)), (2, .int .i64 x2), (8, v6161), (9, .int .i64 (wrap64 (a6164 + 1)))]) (Nat.lt_succ_self _) ⟨_, _, _, ho6144, rfl, HM⟩ (Sub.cons rfl (Sub.cons rfl (Sub.cons rfl (Sub.cons rfl (Sub.cons rfl Sub.nil)))))
        · replace ho6144 := cond_f hb6183 ho6144
          refine run_exit ?_
          refine at_then_exit ?_
          refine at_then_exit ?_
          refine at_block_exit ?_
          exact at_mid (ρ' := [(1, .pointer (some ⟨b1, f1, none⟩)), (2, .int .i64 x2), (8, v6161)]) ⟨_, _, (Option.some.inj ho6144), rfl, HM⟩ (Sub.cons rfl (Sub.cons rfl (Sub.cons rfl Sub.nil)))
      · rintro _ w6208 ⟨v6140, a6141, rfl, rfl, HM⟩
        refine run_seq ?_
        refine run_seq ?_
        refine run_region rfl ?_
        refine ox rfl rfl rfl rfl (ex_move rfl rfl) ?_
        refine ox rfl rfl rfl rfl (ex_nilCheck rfl rfl) ?_
        refine ox rfl rfl rfl rfl (ex_fieldAddr (off' := f1) rfl rfl Try.underlying28 rfl tsz2 rfl) ?_
        refine ox rfl rfl rfl rfl (ex_load1 rfl rfl Try.underlying2 rfl ((HM.at_ hc1) 0 _ rfl)) ?_
        refine ox rfl rfl rfl rfl (ex_neq rfl rfl rfl) ?_
        refine ops_nil (at_then ?_)
        refine run_cond (b := (x1.fKind != 1)) rfl (fun hb6210 => ?_) (fun hb6210 => ?_)
        · replace H := cond_t hb6210 H
          refine run_seq ?_
          refine run_region rfl ?_
          refine ox rfl rfl rfl rfl (ex_move rfl rfl) ?_
          refine ox rfl rfl rfl rfl (ex_assign rfl rfl) ?_
          refine ox rfl rfl rfl rfl (ex_assign rfl rfl) ?_
          refine ops_nil (at_then ?_)
          refine run_ret ?_
          refine at_then_ret ?_
          have hR := Option.some.inj H
          subst hR
          exact at_ret2 rfl rfl rfl ⟨_, rfl, _, rfl, HM⟩
        · replace H := cond_f hb6210 H
          refine run_skip ?_
          refine at_then ?_
          refine run_seq ?_
          obtain ⟨t6211, h6212, H⟩ := bind_some H
          refine run_region rfl ?_
          refine ox rfl rfl rfl rfl (ex_move rfl rfl) ?_
          refine ox rfl rfl rfl rfl (ex_move rfl rfl) ?_
          refine ox rfl rfl rfl rfl (ex_nilCheck rfl rfl) ?_
          refine ox rfl rfl rfl rfl (ex_fieldAddr (off' := f1 + 1) rfl rfl Try.underlying28 rfl tsz2 rfl) ?_
          refine ox rfl rfl rfl rfl (ex_load1 rfl rfl Try.underlying2 rfl ((HM.at_ hc1) 1 _ rfl)) ?_
          refine ox rfl rfl rfl rfl (ex_move rfl rfl) ?_
          refine ox rfl rfl rfl rfl (ex_build (cells := #[(.int .i64 x2), (.int .i64 0)]) rfl rfl (by kernel_rfl)) ?_
          refine ox rfl rfl rfl rfl (ex_build (cells := #[(.int .i64 x1.fMember), (.int .i64 x2), (.int .i64 0)]) rfl rfl (by kernel_rfl)) ?_
          refine od rfl rfl rfl rfl (does_callk rfl callok120 rfl (spec_l6Join.calls (x0 := a6141) (x1 := (⟨x1.fMember, (⟨x2, 0⟩ : Ref)⟩ : Member)) (HM.own_rd 0 rfl) h6212)) ?_
          rintro _ w6215 ⟨u6213, rfl, hn⟩
          replace HM : Mem w [] w6215 [own kMember 38 u6213 t6211.1, own kMember 38 v6140 a6141] := HM.call hn
          refine ox rfl rfl rfl rfl (ex_extract rfl rfl rfl) ?_
          refine ox rfl rfl rfl rfl (ex_extract rfl rfl rfl) ?_
          refine ox rfl rfl rfl rfl (ex_assign rfl rfl) ?_
          refine ox rfl rfl rfl rfl (ex_assign rfl rfl) ?_
          refine ops_nil (at_then ?_)
          refine run_ret ?_
          replace HM := (HM.front 1 rfl rfl).drop
          have hR := Option.some.inj H
          subst hR
          exact at_ret2 rfl rfl rfl ⟨_, rfl, _, rfl, HM⟩

def spec_TakeMembers.f (k : Nat) (x0 : List Member) (x1 : Tx) (x2 : Int) : Option MembersResult := ((spec_l6Fault.f k x0).bind fun t6232 => (bif (t6232 != 0) then some (⟨t6232, ([] : List Member)⟩ : MembersResult) else ((spec_l3Fault.f k x1).bind fun t6241 => (bif (t6241 != 0) then some (⟨t6241, ([] : List Member)⟩ : MembersResult) else ((spec_l1In.f k x2 1 60).bind fun t6250 => (bif !t6250 then some (⟨3, ([] : List Member)⟩ : MembersResult) else ((spec_l6Take.f k x0 x1 x2).bind fun t6256 => (bif (t6256.2 != 0) then some (⟨t6256.2, ([] : List Member)⟩ : MembersResult) else some (⟨0, t6256.1⟩ : MembersResult)))))))))
theorem spec_TakeMembers.calls {k : Nat} {x0 : List Member} {x1 : Tx} {x2 : Int} {p0 : Value} {p1_0 : Value} {p1_1 : Value} {w : World} (hp0 : RdS kMember w p0 x0) (hp1_0 : RdS kRef w p1_0 x1.fIns) (hp1_1 : RdS kOut w p1_1 x1.fOuts) {r : MembersResult} (H : spec_TakeMembers.f k x0 x1 x2 = some r) :
    Calls Try.prog 10 ([p0, .agg #[(.int .i64 x1.fKind), (.int .i64 x1.fMember), p1_0, p1_1], .int .i64 x2] : List Value).toArray w (fun e w_ => ∃ v, e = .returned v ∧ ∃ u0 : Value, v = (.agg #[.int .i64 r.fCode, u0]) ∧ Mem w [] w_ [own kMember 38 u0 r.fMembers]) := by
  have HM := Mem.start w
  refine calls_run (N := 38) Try.func10 rfl rfl rfl rfl ?_
  unfold spec_TakeMembers.f at H
  refine run_seq ?_
  refine run_region rfl ?_
  refine od rfl rfl rfl rfl (does_box (cs := [.int .i64 x1.fKind, .int .i64 x1.fMember, p1_0, p1_1]) rfl rfl rfl HM) ?_
  rintro _ w6227 ⟨b6221, rfl, HM⟩
  refine od rfl rfl rfl rfl (does_alloc (cs := [.int .i64 0, .slice none 0 0]) rfl tz32 rfl HM) ?_
  rintro _ w6228 ⟨b6224, rfl, HM⟩
  refine ops_nil (at_then (run_seq ?_))
  refine run_seq ?_
  obtain ⟨t6232, h6233, H⟩ := bind_some H
  refine run_region rfl ?_
  refine ox rfl rfl rfl rfl (ex_move rfl rfl) ?_
  refine od rfl rfl rfl rfl (does_callk rfl callok56 rfl (spec_l6Fault.calls (x0 := x0) (HM.rd hp0) h6233)) ?_
  rintro _ w6234 ⟨rfl, hn⟩
  replace HM : Mem w [] w6234 [box b6224 32 [.int .i64 0, .slice none 0 0], box b6221 28 [.int .i64 x1.fKind, .int .i64 x1.fMember, p1_0, p1_1]] := HM.call hn
  refine ox rfl rfl rfl rfl (ex_assign rfl rfl) ?_
  refine ops_nil (at_then (run_seq ?_))
  refine run_region rfl ?_
  refine ox rfl rfl rfl rfl (ex_move rfl rfl) ?_
  refine ox rfl rfl rfl rfl (ex_neq rfl rfl rfl) ?_
  refine ops_nil (at_then ?_)
  refine run_cond (b := (t6232 != 0)) rfl (fun hb6235 => ?_) (fun hb6235 => ?_)
  · replace H := cond_t hb6235 H
    refine run_seq ?_
    refine run_region rfl ?_
    refine ox rfl rfl rfl rfl (ex_move rfl rfl) ?_
    refine ox rfl rfl rfl rfl (ex_build (cells := #[(.int .i64 t6232), (.slice none 0 0)]) rfl rfl (by kernel_rfl)) ?_
    refine odS rfl rfl rfl (does_store (vs := [.int .i64 t6232, .slice none 0 0]) (cs' := [.int .i64 t6232, .slice none 0 0]) rfl rfl rfl rfl tsz32 (Ones.int (Ones.sl Ones.nil)) rfl rfl HM) ?_
    rintro w6236 HM
    refine ops_nil (at_then ?_)
    refine run_ret ?_
    refine at_then_ret ?_
    replace HM := HM.empty kMember 38 none
    replace HM := (HM.front 2 rfl rfl).drop
    replace HM := HM.front 1 rfl rfl
    have hcb0 := HM.box_at 0 rfl
    replace HM := (HM.front 0 rfl rfl).drop
    have hR := Option.some.inj H
    subst hR
    exact at_retN rfl rfl Try.underlying32 rfl tsz32 rfl hcb0 ⟨_, rfl, _, rfl, HM⟩
  · replace H := cond_f hb6235 H
    refine run_skip ?_
    refine at_then ?_
    refine run_seq ?_
    refine run_seq ?_
    obtain ⟨t6241, h6242, H⟩ := bind_some H
    refine run_region rfl ?_
    refine od rfl rfl rfl rfl (does_callk rfl callok57 rfl (spec_l3Fault.calls (x0 := x1) (HM.box_at 1 rfl) (HM.rd hp1_0) (HM.rd hp1_1) h6242)) ?_
    rintro _ w6243 ⟨rfl, hn⟩
    replace HM : Mem w [] w6243 [box b6224 32 [.int .i64 0, .slice none 0 0], box b6221 28 [.int .i64 x1.fKind, .int .i64 x1.fMember, p1_0, p1_1]] := HM.call hn
    refine ox rfl rfl rfl rfl (ex_assign rfl rfl) ?_
    refine ops_nil (at_then (run_seq ?_))
    refine run_region rfl ?_
    refine ox rfl rfl rfl rfl (ex_move rfl rfl) ?_
    refine ox rfl rfl rfl rfl (ex_neq rfl rfl rfl) ?_
    refine ops_nil (at_then ?_)
    refine run_cond (b := (t6241 != 0)) rfl (fun hb6244 => ?_) (fun hb6244 => ?_)
    · replace H := cond_t hb6244 H
      refine run_seq ?_
      refine run_region rfl ?_
      refine ox rfl rfl rfl rfl (ex_move rfl rfl) ?_
      refine ox rfl rfl rfl rfl (ex_build (cells := #[(.int .i64 t6241), (.slice none 0 0)]) rfl rfl (by kernel_rfl)) ?_
      refine odS rfl rfl rfl (does_store (vs := [.int .i64 t6241, .slice none 0 0]) (cs' := [.int .i64 t6241, .slice none 0 0]) rfl rfl rfl rfl tsz32 (Ones.int (Ones.sl Ones.nil)) rfl rfl HM) ?_
      rintro w6245 HM
      refine ops_nil (at_then ?_)
      refine run_ret ?_
      refine at_then_ret ?_
      replace HM := HM.empty kMember 38 none
      replace HM := (HM.front 2 rfl rfl).drop
      replace HM := HM.front 1 rfl rfl
      have hcb0 := HM.box_at 0 rfl
      replace HM := (HM.front 0 rfl rfl).drop
      have hR := Option.some.inj H
      subst hR
      exact at_retN rfl rfl Try.underlying32 rfl tsz32 rfl hcb0 ⟨_, rfl, _, rfl, HM⟩
    · replace H := cond_f hb6244 H
      refine run_skip ?_
      refine at_then ?_
      refine run_seq ?_
      refine run_seq ?_
      obtain ⟨t6250, h6251, H⟩ := bind_some H
      refine run_region rfl ?_
      refine ox rfl rfl rfl rfl (ex_move rfl rfl) ?_
      refine od rfl rfl rfl rfl (does_callk rfl callok58 rfl (spec_l1In.calls (x0 := x2) (x1 := 1) (x2 := 60) h6251)) ?_
      rintro _ w6252 ⟨rfl, hn⟩
      replace HM : Mem w [] w6252 [box b6224 32 [.int .i64 0, .slice none 0 0], box b6221 28 [.int .i64 x1.fKind, .int .i64 x1.fMember, p1_0, p1_1]] := HM.call hn
      refine ox rfl rfl rfl rfl (ex_not rfl rfl) ?_
      refine ops_nil (at_then ?_)
      refine run_cond (b := !t6250) rfl (fun hb6253 => ?_) (fun hb6253 => ?_)
      · replace H := cond_t hb6253 H
        refine run_seq ?_
        refine run_region rfl ?_
        refine ox rfl rfl rfl rfl (ex_build (cells := #[(.int .i64 3), (.slice none 0 0)]) rfl rfl (by kernel_rfl)) ?_
        refine odS rfl rfl rfl (does_store (vs := [.int .i64 3, .slice none 0 0]) (cs' := [.int .i64 3, .slice none 0 0]) rfl rfl rfl rfl tsz32 (Ones.int (Ones.sl Ones.nil)) rfl rfl HM) ?_
        rintro w6254 HM
        refine ops_nil (at_then ?_)
        refine run_ret ?_
        refine at_then_ret ?_
        replace HM := HM.empty kMember 38 none
        replace HM := (HM.front 2 rfl rfl).drop
        replace HM := HM.front 1 rfl rfl
        have hcb0 := HM.box_at 0 rfl
        replace HM := (HM.front 0 rfl rfl).drop
        have hR := Option.some.inj H
        subst hR
        exact at_retN rfl rfl Try.underlying32 rfl tsz32 rfl hcb0 ⟨_, rfl, _, rfl, HM⟩
      · replace H := cond_f hb6253 H
        refine run_skip ?_
        refine at_then ?_
        refine run_seq ?_
        obtain ⟨t6256, h6257, H⟩ := bind_some H
        refine run_region rfl ?_
        refine ox rfl rfl rfl rfl (ex_move rfl rfl) ?_
        refine ox rfl rfl rfl rfl (ex_move rfl rfl) ?_
        refine od rfl rfl rfl rfl (does_callk rfl callok59 rfl (spec_l6Take.calls (x0 := x0) (x1 := x1) (x2 := x2) (HM.rd hp0) (HM.box_at 1 rfl) (HM.rd hp1_0) (HM.rd hp1_1) h6257)) ?_
        rintro _ w6260 ⟨u6258, rfl, hn⟩
        replace HM : Mem w [] w6260 [own kMember 38 u6258 t6256.1, box b6224 32 [.int .i64 0, .slice none 0 0], box b6221 28 [.int .i64 x1.fKind, .int .i64 x1.fMember, p1_0, p1_1]] := HM.call hn
        refine ox rfl rfl rfl rfl (ex_move rfl rfl) ?_
        refine ox rfl rfl rfl rfl (ex_extract rfl rfl rfl) ?_
        refine ox rfl rfl rfl rfl (ex_extract rfl rfl rfl) ?_
        refine ox rfl rfl rfl rfl (ex_assign rfl rfl) ?_
        refine ox rfl rfl rfl rfl (ex_assign rfl rfl) ?_
        refine ops_nil (at_then (run_seq ?_))
        refine run_seq ?_
        refine run_region rfl ?_
        refine ox rfl rfl rfl rfl (ex_move rfl rfl) ?_
        refine ox rfl rfl rfl rfl (ex_neq rfl rfl rfl) ?_
        refine ops_nil (at_then ?_)
        refine run_cond (b := (t6256.2 != 0)) rfl (fun hb6261 => ?_) (fun hb6261 => ?_)
        · replace H := cond_t hb6261 H
          refine run_seq ?_
          refine run_region rfl ?_
          refine ox rfl rfl rfl rfl (ex_move rfl rfl) ?_
          refine ox rfl rfl rfl rfl (ex_build (cells := #[(.int .i64 t6256.2), (.slice none 0 0)]) rfl rfl (by kernel_rfl)) ?_
          replace HM := HM.front 1 rfl rfl
          refine odS rfl rfl rfl (does_store (vs := [.int .i64 t6256.2, .slice none 0 0]) (cs' := [.int .i64 t6256.2, .slice none 0 0]) rfl rfl rfl rfl tsz32 (Ones.int (Ones.sl Ones.nil)) rfl rfl HM) ?_
          rintro w6262 HM
          refine ops_nil (at_then ?_)
          refine run_ret ?_
          refine at_then_ret ?_
          replace HM := HM.empty kMember 38 none
          replace HM := (HM.front 2 rfl rfl).drop
          replace HM := (HM.front 2 rfl rfl).drop
          replace HM := HM.front 1 rfl rfl
          have hcb0 := HM.box_at 0 rfl
          replace HM := (HM.front 0 rfl rfl).drop
          have hR := Option.some.inj H
          subst hR
          exact at_retN rfl rfl Try.underlying32 rfl tsz32 rfl hcb0 ⟨_, rfl, _, rfl, HM⟩
        · replace H := cond_f hb6261 H
          refine run_skip ?_
          refine at_then ?_
          refine run_seq ?_
          refine run_region rfl ?_
          refine ox rfl rfl rfl rfl (ex_move rfl rfl) ?_
          refine ox rfl rfl rfl rfl (ex_build1 (fun u6258 => [(1, u6258)]) (fun u6258 => #[.int .i64 0, u6258]) rfl rfl (fun _ _ _ => by kernel_rfl) (HM.own_rd 0 rfl).isSl) ?_
          replace HM := HM.front 1 rfl rfl
          refine odS rfl rfl rfl (does_store (vs := [.int .i64 0, u6258]) (cs' := [.int .i64 0, u6258]) rfl rfl rfl rfl tsz32 (Ones.int (Ones.rd (HM.own_rd 1 rfl) Ones.nil)) rfl rfl HM) ?_
          rintro w6264 HM
          refine ops_nil (at_then ?_)
          refine run_ret ?_
          replace HM := (HM.front 2 rfl rfl).drop
          have hcb0 := HM.box_at 0 rfl
          replace HM := (HM.front 0 rfl rfl).drop
          have hR := Option.some.inj H
          subst hR
          exact at_retN rfl rfl Try.underlying32 rfl tsz32 rfl hcb0 ⟨_, rfl, _, rfl, HM⟩

def impl_MemberOf.f (k : Nat) (x0 : List Member) (x1 : Int) : Option MembersResult := ((impl_MembersFault.f k x0).bind fun t6299 => (bif (t6299 != 0) then some (⟨t6299, ([] : List Member)⟩ : MembersResult) else ((impl_findMember.f k x0 x1).bind fun t6305 => (bif !t6305.2 then some (⟨4, ([] : List Member)⟩ : MembersResult) else (chk (idxOk t6305.1 x0.length) (some (⟨0, ([(gt x0 t6305.1)] : List Member)⟩ : MembersResult)))))))
theorem impl_MemberOf.calls {k : Nat} {x0 : List Member} {x1 : Int} {p0 : Value} {w : World} (hp0 : RdS kMember w p0 x0) {r : MembersResult} (H : impl_MemberOf.f k x0 x1 = some r) :
    Calls Try.prog 11 ([p0, .int .i64 x1] : List Value).toArray w (fun e w_ => ∃ v, e = .returned v ∧ ∃ u0 : Value, v = (.agg #[.int .i64 r.fCode, u0]) ∧ Mem w [] w_ [own kMember 38 u0 r.fMembers]) := by
  have HM := Mem.start w
  refine calls_run (N := 29) Try.func11 rfl rfl rfl rfl ?_
  unfold impl_MemberOf.f at H
  refine run_seq ?_
  refine run_region rfl ?_
  refine od rfl rfl rfl rfl (does_alloc (cs := [.int .i64 0, .slice none 0 0]) rfl tz32 rfl HM) ?_
  rintro _ w6295 ⟨b6292, rfl, HM⟩
  refine ops_nil (at_then (run_seq ?_))
  refine run_seq ?_
  obtain ⟨t6299, h6300, H⟩ := bind_some H
  refine run_region rfl ?_
  refine ox rfl rfl rfl rfl (ex_move rfl rfl) ?_
  refine od rfl rfl rfl rfl (does_callk rfl callok13 rfl (impl_MembersFault.calls (x0 := x0) (HM.rd hp0) h6300)) ?_
  rintro _ w6301 ⟨rfl, hn⟩
  replace HM : Mem w [] w6301 [box b6292 32 [.int .i64 0, .slice none 0 0]] := HM.call hn
  refine ox rfl rfl rfl rfl (ex_assign rfl rfl) ?_
  refine ops_nil (at_then (run_seq ?_))
  refine run_region rfl ?_
  refine ox rfl rfl rfl rfl (ex_move rfl rfl) ?_
  refine ox rfl rfl rfl rfl (ex_neq rfl rfl rfl) ?_
  refine ops_nil (at_then ?_)
  refine run_cond (b := (t6299 != 0)) rfl (fun hb6302 => ?_) (fun hb6302 => ?_)
  · replace H := cond_t hb6302 H
    refine run_seq ?_
    refine run_region rfl ?_
    refine ox rfl rfl rfl rfl (ex_move rfl rfl) ?_
    refine ox rfl rfl rfl rfl (ex_build (cells := #[(.int .i64 t6299), (.slice none 0 0)]) rfl rfl (by kernel_rfl)) ?_
    refine odS rfl rfl rfl (does_store (vs := [.int .i64 t6299, .slice none 0 0]) (cs' := [.int .i64 t6299, .slice none 0 0]) rfl rfl rfl rfl tsz32 (Ones.int (Ones.sl Ones.nil)) rfl rfl HM) ?_
    rintro w6303 HM
    refine ops_nil (at_then ?_)
    refine run_ret ?_
    refine at_then_ret ?_
    replace HM := HM.empty kMember 38 none
    replace HM := HM.front 1 rfl rfl
    have hcb0 := HM.box_at 0 rfl
    replace HM := (HM.front 0 rfl rfl).drop
    have hR := Option.some.inj H
    subst hR
    exact at_retN rfl rfl Try.underlying32 rfl tsz32 rfl hcb0 ⟨_, rfl, _, rfl, HM⟩
  · replace H := cond_f hb6302 H
    refine run_skip ?_
    refine at_then ?_
    refine run_seq ?_
    obtain ⟨t6305, h6306, H⟩ := bind_some H
    refine run_region rfl ?_
    refine ox rfl rfl rfl rfl (ex_move rfl rfl) ?_
    refine ox rfl rfl rfl rfl (ex_move rfl rfl) ?_
    refine od rfl rfl rfl rfl (does_callk rfl callok60 rfl (impl_findMember.calls (x0 := x0) (x1 := x1) (HM.rd hp0) h6306)) ?_
    rintro _ w6307 ⟨rfl, hn⟩
    replace HM : Mem w [] w6307 [box b6292 32 [.int .i64 0, .slice none 0 0]] := HM.call hn
    refine ox rfl rfl rfl rfl (ex_move rfl rfl) ?_
    refine ox rfl rfl rfl rfl (ex_extract rfl rfl rfl) ?_
    refine ox rfl rfl rfl rfl (ex_extract rfl rfl rfl) ?_
    refine ox rfl rfl rfl rfl (ex_assign rfl rfl) ?_
    refine ox rfl rfl rfl rfl (ex_assign rfl rfl) ?_
    refine ops_nil (at_then (run_seq ?_))
    refine run_seq ?_
    refine run_region rfl ?_
    refine ox rfl rfl rfl rfl (ex_move rfl rfl) ?_
    refine ox rfl rfl rfl rfl (ex_not rfl rfl) ?_
    refine ops_nil (at_then ?_)
    refine run_cond (b := !t6305.2) rfl (fun hb6309 => ?_) (fun hb6309 => ?_)
    · replace H := cond_t hb6309 H
      refine run_seq ?_
      refine run_region rfl ?_
      refine ox rfl rfl rfl rfl (ex_build (cells := #[(.int .i64 4), (.slice none 0 0)]) rfl rfl (by kernel_rfl)) ?_
      refine odS rfl rfl rfl (does_store (vs := [.int .i64 4, .slice none 0 0]) (cs' := [.int .i64 4, .slice none 0 0]) rfl rfl rfl rfl tsz32 (Ones.int (Ones.sl Ones.nil)) rfl rfl HM) ?_
      rintro w6310 HM
      refine ops_nil (at_then ?_)
      refine run_ret ?_
      refine at_then_ret ?_
      replace HM := HM.empty kMember 38 none
      replace HM := HM.front 1 rfl rfl
      have hcb0 := HM.box_at 0 rfl
      replace HM := (HM.front 0 rfl rfl).drop
      have hR := Option.some.inj H
      subst hR
      exact at_retN rfl rfl Try.underlying32 rfl tsz32 rfl hcb0 ⟨_, rfl, _, rfl, HM⟩
    · replace H := cond_f hb6309 H
      refine run_skip ?_
      refine at_then ?_
      refine run_seq ?_
      obtain ⟨e6312, H⟩ := chk_some H
      refine run_region rfl ?_
      refine ox rfl rfl rfl rfl (ex_move rfl rfl) ?_
      refine ox rfl rfl rfl rfl (ex_move rfl rfl) ?_
      have hc6313 : CellsAt _ (sb p0) (so p0 + (t6305.1).toNat * 3) [(.int .i64 ((gt x0 t6305.1).fKey)), (.int .i64 ((gt x0 t6305.1).fRef.fTx)), (.int .i64 ((gt x0 t6305.1).fRef.fAt))] := rd_plain hp0 e6312
      refine ox rfl rfl rfl rfl (ex_indexAddr (d := kMember) rfl rfl rfl Try.underlying24 tsz38 hp0 (idx_lo e6312) (idx_hi e6312)) ?_
      refine ox rfl rfl rfl rfl (ex_loadN (cs := [(.int .i64 ((gt x0 t6305.1).fKey)), (.int .i64 ((gt x0 t6305.1).fRef.fTx)), (.int .i64 ((gt x0 t6305.1).fRef.fAt))]) rfl rfl Try.underlying38 rfl tsz38 rfl ((HM.at_ hc6313).sub 0 3 rfl)) ?_
      refine od rfl rfl rfl rfl (does_lit (e := 38) (cs := [.int .i64 ((gt x0 t6305.1).fKey), .int .i64 ((gt x0 t6305.1).fRef.fTx), .int .i64 ((gt x0 t6305.1).fRef.fAt)]) (xs := ([(gt x0 t6305.1)] : List Member)) kMember rfl rfl (fun _ => by kernel_rfl) rfl rfl (fun _ _ h => by have h' : _ = [] := h; subst h'; exact (Elems.cons (d := kMember) (x := (gt x0 t6305.1)) (f := []) ⟨rfl, rfl⟩ .nil)) HM.emp) ?_
      rintro v6314 w6317 HM
      refine ox rfl rfl rfl rfl (ex_build1 (fun v6314 => [(1, v6314)]) (fun v6314 => #[.int .i64 0, v6314]) rfl rfl (fun _ _ _ => by kernel_rfl) (HM.own_rd 0 rfl).isSl) ?_
      replace HM := HM.front 1 rfl rfl
      refine odS rfl rfl rfl (does_store (vs := [.int .i64 0, v6314]) (cs' := [.int .i64 0, v6314]) rfl rfl rfl rfl tsz32 (Ones.int (Ones.rd (HM.own_rd 1 rfl) Ones.nil)) rfl rfl HM) ?_
      rintro w6318 HM
      refine ops_nil (at_then ?_)
      refine run_ret ?_
      have hcb0 := HM.box_at 0 rfl
      replace HM := (HM.front 0 rfl rfl).drop
      have hR := Option.some.inj H
      subst hR
      exact at_retN rfl rfl Try.underlying32 rfl tsz32 rfl hcb0 ⟨_, rfl, _, rfl, HM⟩

def impl_keysOf.l0 (x0 : List Member) : Nat → (List Int) → Int → Option ((List Int))
  | 0, _, _ => none
  | k + 1, a6533, a6535 => (bif (decide (a6535 < (x0.length : Int))) then (chk (idxOk a6535 x0.length) (chk (leB ((a6533.length + ([(gt x0 a6535).fKey] : List Int).length) * 8) 140737488355328) (impl_keysOf.l0 x0 k (a6533 ++ ([(gt x0 a6535).fKey] : List Int)) (wrap64 (a6535 + 1))))) else some a6533)
theorem impl_keysOf.l0_z (x0 : List Member) (a6533 : List Int) (a6535 : Int) : impl_keysOf.l0 x0 0 a6533 a6535 = none := rfl
theorem impl_keysOf.l0_s (x0 : List Member) (k : Nat) (a6533 : List Int) (a6535 : Int) : impl_keysOf.l0 x0 (k + 1) a6533 a6535 = (bif (decide (a6535 < (x0.length : Int))) then (chk (idxOk a6535 x0.length) (chk (leB ((a6533.length + ([(gt x0 a6535).fKey] : List Int).length) * 8) 140737488355328) (impl_keysOf.l0 x0 k (a6533 ++ ([(gt x0 a6535).fKey] : List Int)) (wrap64 (a6535 + 1))))) else some a6533) := rfl
def impl_keysOf.f (k : Nat) (x0 : List Member) : Option ((List Int)) := ((impl_keysOf.l0 x0 k ([] : List Int) 0).bind (fun a6516 => some a6516))
theorem impl_keysOf.calls {k : Nat} {x0 : List Member} {p0 : Value} {w : World} (hp0 : RdS kMember w p0 x0) {r : (List Int)} (H : impl_keysOf.f k x0 = some r) :
    Calls Try.prog 61 ([p0] : List Value).toArray w (fun e w_ => ∃ v, e = .returned v ∧ ∃ u0 : Value, v = u0 ∧ Mem w [] w_ [own kInt 2 u0 r]) := by
  have HM := Mem.start w
  refine calls_run (N := 20) Try.func61 rfl rfl rfl rfl ?_
  unfold impl_keysOf.f at H
  refine run_seq ?_
  refine run_region rfl ?_
  refine ox rfl rfl rfl rfl (ex_assign rfl rfl) ?_
  refine ops_nil (at_then (run_seq ?_))
  refine run_region rfl ?_
  refine od rfl rfl rfl rfl (does_lit (e := 2) (cs := []) (xs := ([] : List Int)) kInt rfl rfl (fun _ => by kernel_rfl) rfl rfl (fun _ _ h => by have h' : _ = [] := h; subst h'; exact .nil) HM.emp) ?_
  rintro v6471 w6474 HM
  refine ox rfl rfl rfl rfl (ex_assign rfl rfl) ?_
  refine ops_nil (at_then ?_)
  obtain ⟨o6518, ho6519, H⟩ := bind_some H
  refine run_mid (fun ρ_ w_ => ∃ v6515 : Value, ∃ a6516 : List Int, a6516 = o6518 ∧ ρ_ = [(3, v6515)] ∧ Mem w [] w_ [own kInt 2 v6515 a6516]) ?_ ?_
  · clear H
    refine run_seq ?_
    refine run_region rfl ?_
    refine ox rfl rfl rfl rfl (ex_move rfl rfl) ?_
    refine ox rfl rfl rfl rfl (ex_len (d := kMember) (xs := x0) rfl rfl Try.underlying24 hp0) ?_
    refine ox rfl rfl rfl rfl (ex_move rfl rfl) ?_
    refine ops_nil (at_then ?_)
    refine run_block ?_
    refine run_loop (fun k_ ρ_ w_ => ∃ v6532 : Value, ∃ a6533 : List Int, ∃ a6535 : Int, impl_keysOf.l0 x0 k_ a6533 a6535 = some o6518 ∧ ρ_ = [(3, v6532), (7, p0), (8, .int .i64 (x0.length : Int)), (9, .int .i64 a6535)] ∧ Mem w [] w_ [own kInt 2 v6532 a6533]) k (ρ1 := [(3, v6471), (7, p0), (8, .int .i64 (x0.length : Int)), (9, .int .i64 0)]) ⟨_, _, _, ho6519, rfl, HM⟩ (Sub.cons rfl (Sub.cons rfl (Sub.cons rfl (Sub.cons rfl Sub.nil)))) ?_
    clear HM ho6519
    rintro k6548 _ w6549 ⟨v6532, a6533, a6535, ho6519, rfl, HM⟩
    obtain _ | k6548 := k6548
    · exact nomatch ((impl_keysOf.l0_z x0 a6533 a6535).symm.trans ho6519)
    replace ho6519 := (impl_keysOf.l0_s x0 k6548 a6533 a6535).symm.trans ho6519
    refine run_seq ?_
    refine run_region rfl ?_
    refine ox rfl rfl rfl rfl (ex_lss rfl rfl rfl) ?_
    refine ops_nil (at_then (run_seq ?_))
    refine run_cond (b := (decide (a6535 < (x0.length : Int)))) rfl (fun hb6550 => ?_) (fun hb6550 => ?_)
    · replace ho6519 := cond_t hb6550 ho6519
      refine run_skip ?_
      refine at_then ?_
      refine run_seq ?_
      refine run_block ?_
      refine run_seq ?_
      obtain ⟨e6551, ho6519⟩ := chk_some ho6519
      refine run_region rfl ?_
      have hc6552 : CellsAt _ (sb p0) (so p0 + (a6535).toNat * 3) [(.int .i64 ((gt x0 a6535).fKey)), (.int .i64 ((gt x0 a6535).fRef.fTx)), (.int .i64 ((gt x0 a6535).fRef.fAt))] := rd_plain hp0 e6551
      refine ox rfl rfl rfl rfl (ex_indexAddr (d := kMember) rfl rfl rfl Try.underlying24 tsz38 hp0 (idx_lo e6551) (idx_hi e6551)) ?_
      refine ox rfl rfl rfl rfl (ex_loadN (cs := [(.int .i64 ((gt x0 a6535).fKey)), (.int .i64 ((gt x0 a6535).fRef.fTx)), (.int .i64 ((gt x0 a6535).fRef.fAt))]) rfl rfl Try.underlying38 rfl tsz38 rfl ((HM.at_ hc6552).sub 0 3 rfl)) ?_
      refine od rfl rfl rfl rfl (does_alloc (cs := [.int .i64 0, .int .i64 0, .int .i64 0]) rfl tz38 rfl HM) ?_
      rintro _ w6556 ⟨b6553, rfl, HM⟩
      refine odS rfl rfl rfl (does_store (vs := [.int .i64 ((gt x0 a6535).fKey), .int .i64 ((gt x0 a6535).fRef.fTx), .int .i64 ((gt x0 a6535).fRef.fAt)]) (cs' := [.int .i64 ((gt x0 a6535).fKey), .int .i64 ((gt x0 a6535).fRef.fTx), .int .i64 ((gt x0 a6535).fRef.fAt)]) rfl rfl rfl rfl tsz38 (Ones.int (Ones.int (Ones.int Ones.nil))) rfl rfl HM) ?_
      rintro w6557 HM
      refine ops_nil (at_then ?_)
      obtain ⟨e6561, ho6519⟩ := chk_some ho6519
      refine run_region rfl ?_
      refine ox rfl rfl rfl rfl (ex_move rfl rfl) ?_
      refine ox rfl rfl rfl rfl (ex_fieldAddr (off' := 0) rfl rfl Try.underlying38 rfl tsz2 rfl) ?_
      refine ox rfl rfl rfl rfl (ex_load1 rfl rfl Try.underlying2 rfl ((HM.box_at 0 rfl) 0 _ rfl)) ?_
      refine od rfl rfl rfl rfl (does_lit (e := 2) (cs := [.int .i64 ((gt x0 a6535).fKey)]) (xs := ([(gt x0 a6535).fKey] : List Int)) kInt rfl rfl (fun _ => by kernel_rfl) rfl rfl (fun _ _ h => by have h' : _ = [] := h; subst h'; exact (Elems.cons (d := kInt) (x := (gt x0 a6535).fKey) (f := []) ⟨rfl, rfl⟩ .nil)) HM.emp) ?_
      rintro v6558 w6564 HM
      replace HM := HM.front 2 rfl rfl
      refine od rfl rfl rfl rfl (does_appendR kInt flat_plain rfl rfl rfl Try.underlying39 tsz2 rfl tby2 tz2 rfl rfl (leB_le e6561) (HM.own_rd 1 rfl) HM) ?_
      rintro v6562 w6565 HM
      refine ox rfl rfl rfl rfl (ex_assign rfl rfl) ?_
      refine ops_nil ?_
      refine at_block ?_
      refine at_then ?_
      refine run_region rfl ?_
      refine ox rfl rfl rfl rfl (ex_add rfl rfl rfl) ?_
      refine ox rfl rfl rfl rfl (ex_move rfl rfl) ?_
      refine ops_nil ?_
      replace HM := (HM.front 1 rfl rfl).drop
      replace HM := (HM.front 1 rfl rfl).drop
      exact at_again k6548 (ρ1 := [(3, v6562), (7, p0), (8, .int .i64 (x0.length : Int)), (9, .int .i64 (wrap64 (a6535 + 1)))]) (Nat.lt_succ_self _) ⟨_, _, _, ho6519, rfl, HM⟩ (Sub.cons rfl (Sub.cons rfl (Sub.cons rfl (Sub.cons rfl Sub.nil))))
    · replace ho6519 := cond_f hb6550 ho6519
      refine run_exit ?_
      refine at_then_exit ?_
      refine at_then_exit ?_
      refine at_block_exit ?_
      exact at_mid (ρ' := [(3, v6532)]) ⟨_, _, (Option.some.inj ho6519), rfl, HM⟩ (Sub.cons rfl Sub.nil)
  · rintro _ w6566 ⟨v6515, a6516, rfl, rfl, HM⟩
    refine run_seq ?_
    refine run_region rfl ?_
    refine ox rfl rfl rfl rfl (ex_move rfl rfl) ?_
    refine ox rfl rfl rfl rfl (ex_assign rfl rfl) ?_
    refine ops_nil (at_then ?_)
    refine run_ret ?_
    have hR := Option.some.inj H
    subst hR
    exact at_ret1 rfl rfl ⟨_, rfl, _, rfl, HM⟩

def impl_KeysOf.f (k : Nat) (x0 : List Member) : Option IntsResult := ((impl_MembersFault.f k x0).bind fun t6575 => (bif (t6575 != 0) then some (⟨t6575, ([] : List Int)⟩ : IntsResult) else ((impl_keysOf.f k x0).bind fun t6581 => some (⟨0, t6581⟩ : IntsResult))))
theorem impl_KeysOf.calls {k : Nat} {x0 : List Member} {p0 : Value} {w : World} (hp0 : RdS kMember w p0 x0) {r : IntsResult} (H : impl_KeysOf.f k x0 = some r) :
    Calls Try.prog 12 ([p0] : List Value).toArray w (fun e w_ => ∃ v, e = .returned v ∧ ∃ u0 : Value, v = (.agg #[.int .i64 r.fCode, u0]) ∧ Mem w [] w_ [own kInt 2 u0 r.fList]) := by
  have HM := Mem.start w
  refine calls_run (N := 13) Try.func12 rfl rfl rfl rfl ?_
  unfold impl_KeysOf.f at H
  refine run_seq ?_
  refine run_region rfl ?_
  refine od rfl rfl rfl rfl (does_alloc (cs := [.int .i64 0, .slice none 0 0]) rfl tz41 rfl HM) ?_
  rintro _ w6574 ⟨b6571, rfl, HM⟩
  refine ops_nil (at_then (run_seq ?_))
  refine run_seq ?_
  obtain ⟨t6575, h6576, H⟩ := bind_some H
  refine run_region rfl ?_
  refine ox rfl rfl rfl rfl (ex_move rfl rfl) ?_
  refine od rfl rfl rfl rfl (does_callk rfl callok13 rfl (impl_MembersFault.calls (x0 := x0) (HM.rd hp0) h6576)) ?_
  rintro _ w6577 ⟨rfl, hn⟩
  replace HM : Mem w [] w6577 [box b6571 41 [.int .i64 0, .slice none 0 0]] := HM.call hn
  refine ox rfl rfl rfl rfl (ex_assign rfl rfl) ?_
  refine ops_nil (at_then (run_seq ?_))
  refine run_region rfl ?_
  refine ox rfl rfl rfl rfl (ex_move rfl rfl) ?_
  refine ox rfl rfl rfl rfl (ex_neq rfl rfl rfl) ?_
  refine ops_nil (at_then ?_)
  refine run_cond (b := (t6575 != 0)) rfl (fun hb6578 => ?_) (fun hb6578 => ?_)
  · replace H := cond_t hb6578 H
    refine run_seq ?_
    refine run_region rfl ?_
    refine ox rfl rfl rfl rfl (ex_move rfl rfl) ?_
    refine ox rfl rfl rfl rfl (ex_build (cells := #[(.int .i64 t6575), (.slice none 0 0)]) rfl rfl (by kernel_rfl)) ?_
    refine odS rfl rfl rfl (does_store (vs := [.int .i64 t6575, .slice none 0 0]) (cs' := [.int .i64 t6575, .slice none 0 0]) rfl rfl rfl rfl tsz41 (Ones.int (Ones.sl Ones.nil)) rfl rfl HM) ?_
    rintro w6579 HM
    refine ops_nil (at_then ?_)
    refine run_ret ?_
    refine at_then_ret ?_
    replace HM := HM.empty kInt 2 none
    replace HM := HM.front 1 rfl rfl
    have hcb0 := HM.box_at 0 rfl
    replace HM := (HM.front 0 rfl rfl).drop
    have hR := Option.some.inj H
    subst hR
    exact at_retN rfl rfl Try.underlying41 rfl tsz41 rfl hcb0 ⟨_, rfl, _, rfl, HM⟩
  · replace H := cond_f hb6578 H
    refine run_skip ?_
    refine at_then ?_
    refine run_seq ?_
    obtain ⟨t6581, h6582, H⟩ := bind_some H
    refine run_region rfl ?_
    refine ox rfl rfl rfl rfl (ex_move rfl rfl) ?_
    refine od rfl rfl rfl rfl (does_callk rfl callok61 rfl (impl_keysOf.calls (x0 := x0) (HM.rd hp0) h6582)) ?_
    rintro u6583 w6585 ⟨_, rfl, hn⟩
    replace HM : Mem w [] w6585 [own kInt 2 u6583 t6581, box b6571 41 [.int .i64 0, .slice none 0 0]] := HM.call hn
    refine ox rfl rfl rfl rfl (ex_build1 (fun u6583 => [(1, u6583)]) (fun u6583 => #[.int .i64 0, u6583]) rfl rfl (fun _ _ _ => by kernel_rfl) (HM.own_rd 0 rfl).isSl) ?_
    replace HM := HM.front 1 rfl rfl
    refine odS rfl rfl rfl (does_store (vs := [.int .i64 0, u6583]) (cs' := [.int .i64 0, u6583]) rfl rfl rfl rfl tsz41 (Ones.int (Ones.rd (HM.own_rd 1 rfl) Ones.nil)) rfl rfl HM) ?_
    rintro w6586 HM
    refine ops_nil (at_then ?_)
    refine run_ret ?_
    have hcb0 := HM.box_at 0 rfl
    replace HM := (HM.front 0 rfl rfl).drop
    have hR := Option.some.inj H
    subst hR
    exact at_retN rfl rfl Try.underlying41 rfl tsz41 rfl hcb0 ⟨_, rfl, _, rfl, HM⟩

def slices_Equal_impl_Member.l0 (x0 : List Member) (x1 : List Member) : Nat → Int → Option (Bool ⊕ Unit)
  | 0, _ => none
  | k + 1, a6652 => (bif (decide (a6652 < (x0.length : Int))) then (chk (idxOk a6652 x0.length) (chk (idxOk a6652 x1.length) (bif (!((((gt x0 a6652).fKey) == ((gt x1 a6652).fKey)) && ((((gt x0 a6652).fRef.fTx) == ((gt x1 a6652).fRef.fTx)) && (((gt x0 a6652).fRef.fAt) == ((gt x1 a6652).fRef.fAt))))) then some (.inl false) else slices_Equal_impl_Member.l0 x0 x1 k (wrap64 (a6652 + 1))))) else some (.inr ()))
theorem slices_Equal_impl_Member.l0_z (x0 : List Member) (x1 : List Member) (a6652 : Int) : slices_Equal_impl_Member.l0 x0 x1 0 a6652 = none := rfl
theorem slices_Equal_impl_Member.l0_s (x0 : List Member) (x1 : List Member) (k : Nat) (a6652 : Int) : slices_Equal_impl_Member.l0 x0 x1 (k + 1) a6652 = (bif (decide (a6652 < (x0.length : Int))) then (chk (idxOk a6652 x0.length) (chk (idxOk a6652 x1.length) (bif (!((((gt x0 a6652).fKey) == ((gt x1 a6652).fKey)) && ((((gt x0 a6652).fRef.fTx) == ((gt x1 a6652).fRef.fTx)) && (((gt x0 a6652).fRef.fAt) == ((gt x1 a6652).fRef.fAt))))) then some (.inl false) else slices_Equal_impl_Member.l0 x0 x1 k (wrap64 (a6652 + 1))))) else some (.inr ())) := rfl
def slices_Equal_impl_Member.f (k : Nat) (x0 : List Member) (x1 : List Member) : Option Bool := (bif ((x0.length : Int) != (x1.length : Int)) then some false else ((slices_Equal_impl_Member.l0 x0 x1 k 0).bind fun o6644 => thn o6644 (fun r => some r) (fun _ => some true)))
theorem slices_Equal_impl_Member.calls {k : Nat} {x0 : List Member} {x1 : List Member} {p0 : Value} {p1 : Value} {w : World} (hp0 : RdS kMember w p0 x0) (hp1 : RdS kMember w p1 x1) {r : Bool} (H : slices_Equal_impl_Member.f k x0 x1 = some r) :
    Calls Try.prog 66 ([p0, p1] : List Value).toArray w (fun e w_ => ∃ v, e = .returned v ∧ v = (.bool r) ∧ Mem w [] w_ []) := by
  have HM := Mem.start w
  refine calls_run (N := 26) Try.func66 rfl rfl rfl rfl ?_
  unfold slices_Equal_impl_Member.f at H
  refine run_seq ?_
  refine run_region rfl ?_
  refine ox rfl rfl rfl rfl (ex_assign rfl rfl) ?_
  refine ops_nil (at_then (run_seq ?_))
  refine run_seq ?_
  refine run_region rfl ?_
  refine ox rfl rfl rfl rfl (ex_move rfl rfl) ?_
  refine ox rfl rfl rfl rfl (ex_len (d := kMember) (xs := x0) rfl rfl Try.underlying24 hp0) ?_
  refine ox rfl rfl rfl rfl (ex_move rfl rfl) ?_
  refine ox rfl rfl rfl rfl (ex_len (d := kMember) (xs := x1) rfl rfl Try.underlying24 hp1) ?_
  refine ox rfl rfl rfl rfl (ex_neq rfl rfl rfl) ?_
  refine ops_nil (at_then ?_)
  refine run_cond (b := ((x0.length : Int) != (x1.length : Int))) rfl (fun hb6624 => ?_) (fun hb6624 => ?_)
  · replace H := cond_t hb6624 H
    refine run_seq ?_
    refine run_region rfl ?_
    refine ox rfl rfl rfl rfl (ex_assign rfl rfl) ?_
    refine ops_nil (at_then ?_)
    refine run_ret ?_
    refine at_then_ret ?_
    have hR := Option.some.inj H
    subst hR
    exact at_ret1 rfl rfl ⟨_, rfl, rfl, HM⟩
  · replace H := cond_f hb6624 H
    refine run_skip ?_
    refine at_then ?_
    obtain ⟨o6644, ho6645, H⟩ := bind_some H
    refine run_mid (fun ρ_ w_ => Sum.inr () = o6644 ∧ ρ_ = [] ∧ Mem w [] w_ []) ?_ ?_
    · skip
      refine run_seq ?_
      refine run_region rfl ?_
      refine ox rfl rfl rfl rfl (ex_move rfl rfl) ?_
      refine ox rfl rfl rfl rfl (ex_len (d := kMember) (xs := x0) rfl rfl Try.underlying24 hp0) ?_
      refine ox rfl rfl rfl rfl (ex_move rfl rfl) ?_
      refine ops_nil (at_then ?_)
      refine run_block ?_
      refine run_loop (fun k_ ρ_ w_ => ∃ a6652 : Int, slices_Equal_impl_Member.l0 x0 x1 k_ a6652 = some o6644 ∧ ρ_ = [(0, p0), (1, p1), (12, .int .i64 (x0.length : Int)), (13, .int .i64 a6652)] ∧ Mem w [] w_ []) k (ρ1 := [(0, p0), (1, p1), (12, .int .i64 (x0.length : Int)), (13, .int .i64 0)]) ⟨_, ho6645, rfl, HM⟩ (Sub.cons rfl (Sub.cons rfl (Sub.cons rfl (Sub.cons rfl Sub.nil)))) ?_
      clear HM ho6645
      rintro k6659 _ w6660 ⟨a6652, ho6645, rfl, HM⟩
      obtain _ | k6659 := k6659
      · exact nomatch ((slices_Equal_impl_Member.l0_z x0 x1 a6652).symm.trans ho6645)
      replace ho6645 := (slices_Equal_impl_Member.l0_s x0 x1 k6659 a6652).symm.trans ho6645
      refine run_seq ?_
      refine run_region rfl ?_
      refine ox rfl rfl rfl rfl (ex_lss rfl rfl rfl) ?_
      refine ops_nil (at_then (run_seq ?_))
      refine run_cond (b := (decide (a6652 < (x0.length : Int)))) rfl (fun hb6661 => ?_) (fun hb6661 => ?_)
      · replace ho6645 := cond_t hb6661 ho6645
        refine run_skip ?_
        refine at_then ?_
        refine run_seq ?_
        refine run_block ?_
        refine run_seq ?_
        refine run_region rfl ?_
        refine ox rfl rfl rfl rfl (ex_move rfl rfl) ?_
        refine ox rfl rfl rfl rfl (ex_assign rfl rfl) ?_
        refine ops_nil (at_then (run_seq ?_))
        obtain ⟨e6662, ho6645⟩ := chk_some ho6645
        obtain ⟨e6664, ho6645⟩ := chk_some ho6645
        refine run_drawf (fun w_ => Mem w [] w_ []) [(0, true), (1, true), (2, true), (3, true), (4, true), (5, true), (6, true), (7, true), (8, true)] mixed rfl rfl (by kernel_rfl) ?_
        replace HM := HM.grow (fr_drew _)
        have hS := Mem.suf (M := []) HM
        refine dp rfl rfl rfl rfl (ex_move rfl rfl) hS ?_
        refine dp rfl rfl rfl rfl (ex_move rfl rfl) hS ?_
        have hc6663 : CellsAt _ (sb p0) (so p0 + (a6652).toNat * 3) [(.int .i64 ((gt x0 a6652).fKey)), (.int .i64 ((gt x0 a6652).fRef.fTx)), (.int .i64 ((gt x0 a6652).fRef.fAt))] := rd_plain hp0 e6662
        refine dp rfl rfl rfl rfl (ex_indexAddr (d := kMember) rfl rfl rfl Try.underlying24 tsz38 hp0 (idx_lo e6662) (idx_hi e6662)) hS ?_
        refine drwp_take rfl (guard_none rfl) rfl rfl (fun w_ hS_ => (ex_loadN (cs := [(.int .i64 ((gt x0 a6652).fKey)), (.int .i64 ((gt x0 a6652).fRef.fTx)), (.int .i64 ((gt x0 a6652).fRef.fAt))]) rfl rfl Try.underlying38 rfl tsz38 rfl ((hS_.at_ hc6663).sub 0 3 rfl))) hS ?_
        refine dp rfl rfl rfl rfl (ex_move rfl rfl) hS ?_
        refine dp rfl rfl rfl rfl (ex_move rfl rfl) hS ?_
        have hc6665 : CellsAt _ (sb p1) (so p1 + (a6652).toNat * 3) [(.int .i64 ((gt x1 a6652).fKey)), (.int .i64 ((gt x1 a6652).fRef.fTx)), (.int .i64 ((gt x1 a6652).fRef.fAt))] := rd_plain hp1 e6664
        refine dp rfl rfl rfl rfl (ex_indexAddr (d := kMember) rfl rfl rfl Try.underlying24 tsz38 hp1 (idx_lo e6664) (idx_hi e6664)) hS ?_
        refine drwp_take rfl (guard_none rfl) rfl rfl (fun w_ hS_ => (ex_loadN (cs := [(.int .i64 ((gt x1 a6652).fKey)), (.int .i64 ((gt x1 a6652).fRef.fTx)), (.int .i64 ((gt x1 a6652).fRef.fAt))]) rfl rfl Try.underlying38 rfl tsz38 rfl ((hS_.at_ hc6665).sub 0 3 rfl))) hS ?_
        refine dp rfl rfl rfl rfl (ex_aneq rfl rfl rfl (by kernel_rfl) (eqs38 _ _ _ _ _ _ _)) hS ?_
        refine drwp_done ?_
        refine at_then ?_
        refine run_cond (b := (!((((gt x0 a6652).fKey) == ((gt x1 a6652).fKey)) && ((((gt x0 a6652).fRef.fTx) == ((gt x1 a6652).fRef.fTx)) && (((gt x0 a6652).fRef.fAt) == ((gt x1 a6652).fRef.fAt)))))) rfl (fun hb6666 => ?_) (fun hb6666 => ?_)
        · replace ho6645 := cond_t hb6666 ho6645
          refine run_seq ?_
          refine run_region rfl ?_
          refine ox rfl rfl rfl rfl (ex_assign rfl rfl) ?_
          refine ops_nil (at_then ?_)
          refine run_ret ?_
          refine at_block_ret ?_
          refine at_then_ret ?_
          refine at_then_ret ?_
          refine at_block_ret ?_
          refine at_then_ret ?_
          have hR := Option.some.inj ho6645
          subst hR
          have hT := thn_inl H
          have hR := Option.some.inj hT
          subst hR
          exact at_ret1 rfl rfl ⟨_, rfl, rfl, HM⟩
        · replace ho6645 := cond_f hb6666 ho6645
          refine run_skip ?_
          refine at_block ?_
          refine at_then ?_
          refine run_region rfl ?_
          refine ox rfl rfl rfl rfl (ex_add rfl rfl rfl) ?_
          refine ox rfl rfl rfl rfl (ex_move rfl rfl) ?_
          refine ops_nil ?_
          exact at_again k6659 (ρ1 := [(0, p0), (1, p1), (12, .int .i64 (x0.length : Int)), (13, .int .i64 (wrap64 (a6652 + 1)))]) (Nat.lt_succ_self _) ⟨_, ho6645, rfl, HM⟩ (Sub.cons rfl (Sub.cons rfl (Sub.cons rfl (Sub.cons rfl Sub.nil))))
      · replace ho6645 := cond_f hb6661 ho6645
        refine run_exit ?_
        refine at_then_exit ?_
        refine at_then_exit ?_
        refine at_block_exit ?_
        exact at_mid (ρ' := []) ⟨(Option.some.inj ho6645), rfl, HM⟩ Sub.nil
    · rintro _ w6667 ⟨rfl, rfl, HM⟩
      replace H := (thn_inr H)
      refine run_seq ?_
      refine run_region rfl ?_
      refine ox rfl rfl rfl rfl (ex_assign rfl rfl) ?_
      refine ops_nil (at_then ?_)
      refine run_ret ?_
      have hR := Option.some.inj H
      subst hR
      exact at_ret1 rfl rfl ⟨_, rfl, rfl, HM⟩
end Go.Proofs.Ytbbcabpnkdilgaa.Zk
