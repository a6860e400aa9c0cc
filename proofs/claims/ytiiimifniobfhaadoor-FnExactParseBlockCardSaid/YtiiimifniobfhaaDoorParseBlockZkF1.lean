/- What functions of the program compute, each as a plain function, and that they do. Conditions: as each theorem states them. -/
import Derived.Test.YtiiimifniobfhaaDoorParseBlockZkF0
namespace Go.Proofs.YtiiimifniobfhaaDoor.Zk
open Go Go.RowKit Go.IntWalk Go.Proofs
set_option linter.unusedVariables false
set_option linter.unusedSimpArgs false
set_option maxRecDepth 100000
set_option maxHeartbeats 4000000
def spec_l7Parse.l0 (t620 : (List ByteArray)) (t658 : (List ByteArray)) : Nat → (List Int) → Bool → Int → Option ((List Int) × Bool)
  | 0, _, _, _ => none
  | k + 1, a719, a721, a722 => (chk (!(decide (a722 < (t658.length : Int))) || (idxOk (4 : Int) t620.length)) (bif ((decide (a722 < (t658.length : Int))) && (!sEq (gt t620 (4 : Int)) (⟨#[45]⟩ : ByteArray))) then (chk (idxOk a722 t658.length) ((spec_l2Number.f k (gt t658 a722) 2).bind fun t743 => (chk (leB ((a719.length + ([t743.1] : List Int).length) * 8) 140737488355328) (spec_l7Parse.l0 t620 t658 k (a719 ++ ([t743.1] : List Int)) (a721 && t743.2) (wrap64 (a722 + 1)))))) else some (a719, a721)))
theorem spec_l7Parse.l0_z (t620 : (List ByteArray)) (t658 : (List ByteArray)) (a719 : List Int) (a721 : Bool) (a722 : Int) : spec_l7Parse.l0 t620 t658 0 a719 a721 a722 = none := rfl
theorem spec_l7Parse.l0_s (t620 : (List ByteArray)) (t658 : (List ByteArray)) (k : Nat) (a719 : List Int) (a721 : Bool) (a722 : Int) : spec_l7Parse.l0 t620 t658 (k + 1) a719 a721 a722 = (chk (!(decide (a722 < (t658.length : Int))) || (idxOk (4 : Int) t620.length)) (bif ((decide (a722 < (t658.length : Int))) && (!sEq (gt t620 (4 : Int)) (⟨#[45]⟩ : ByteArray))) then (chk (idxOk a722 t658.length) ((spec_l2Number.f k (gt t658 a722) 2).bind fun t743 => (chk (leB ((a719.length + ([t743.1] : List Int).length) * 8) 140737488355328) (spec_l7Parse.l0 t620 t658 k (a719 ++ ([t743.1] : List Int)) (a721 && t743.2) (wrap64 (a722 + 1)))))) else some (a719, a721))) := rfl
def spec_l7Parse.f (k : Nat) (x0 : ByteArray) : Option (Block × Bool) := ((spec_l2Cut.f k x0 32).bind fun t620 => (chk (!(!((t620.length : Int) != 5)) || (idxOk (0 : Int) t620.length)) (bif (((t620.length : Int) != 5) || (!sEq (gt t620 (0 : Int)) (⟨#[98, 108, 111, 99, 107]⟩ : ByteArray))) then some ((⟨0, 0, 0, ([] : List Int)⟩ : Block), false) else (chk (idxOk (1 : Int) t620.length) ((spec_l2Number.f k (gt t620 (1 : Int)) 2).bind fun t635 => (chk (idxOk (2 : Int) t620.length) ((spec_l2Number.f k (gt t620 (2 : Int)) 2).bind fun t639 => (chk (idxOk (3 : Int) t620.length) ((spec_l2Number.f k (gt t620 (3 : Int)) 3).bind fun t643 => (chk (idxOk (4 : Int) t620.length) ((spec_l2Cut.f k (gt t620 (4 : Int)) 43).bind fun t658 => ((spec_l7Parse.l0 t620 t658 k ([] : List Int) ((t635.2 && t639.2) && t643.2) 0).bind (cur2 (fun a702 a704 => ((bif a704 then spec_l7Fault.f k (⟨t635.1, t639.1, t643.1, a702⟩ : Block) else some default).bind fun t759 => some ((⟨t635.1, t639.1, t643.1, a702⟩ : Block), (a704 && (t759 == 0))))))))))))))))))
theorem spec_l7Parse.calls {k : Nat} {x0 : ByteArray}  {w : World}  {r : Block × Bool} (H : spec_l7Parse.f k x0 = some r) :
    Calls Tryd.prog 48 ([.string x0] : List Value).toArray w (fun e w_ => ∃ v, e = .returned v ∧ ∃ u0 : Value, v = (.tuple #[.agg #[.int .i64 r.1.fPrev, .int .i64 r.1.fHeight, .int .i64 r.1.fMiner, u0], .bool r.2]) ∧ Mem w [] w_ [own kInt 2 u0 r.1.fTxs]) := by
  have HM := Mem.start w
  refine calls_run (N := 101) Tryd.func48 rfl rfl rfl rfl ?_
  unfold spec_l7Parse.f at H
  refine run_seq ?_
  refine run_region rfl ?_
  refine ops_does rfl (guard_none rfl) rfl rfl (does_alloc (cs := [.int .i64 0, .int .i64 0, .int .i64 0, .slice none 0 0]) rfl tz48 rfl HM) ?_
  rintro _ w619 ⟨b616, rfl, HM⟩
  refine ops_ex rfl (guard_none rfl) rfl rfl (ex_assign rfl rfl) ?_
  refine ops_nil ?_
  refine at_then ?_
  refine run_seq ?_
  obtain ⟨t620, h621, H⟩ := bind_some H
  refine run_region rfl ?_
  refine ops_ex rfl (guard_none rfl) rfl rfl (ex_move rfl rfl) ?_
  refine ops_does rfl (guard_none rfl) rfl rfl (does_callk rfl callok88 rfl (spec_l2Cut.calls (x0 := x0) (x1 := 32) h621)) ?_
  rintro u622 w624 ⟨_, rfl, hn⟩
  replace HM : Mem w [] w624 [own kStr 9 u622 t620, box b616 48 [.int .i64 0, .int .i64 0, .int .i64 0, .slice none 0 0]] := HM.call hn
  refine ops_ex rfl (guard_none rfl) rfl rfl (ex_assign rfl rfl) ?_
  refine ops_nil ?_
  refine at_then ?_
  refine run_seq ?_
  refine run_seq ?_
  obtain ⟨e627, H⟩ := chk_some H
  refine run_meet (fun ρ_ w_ => ρ_ = [(2, .pointer (some ⟨b616, 0, none⟩)), (4, u622), (27, .bool (((t620.length : Int) != 5) || (!sEq (gt t620 (0 : Int)) (⟨#[98, 108, 111, 99, 107]⟩ : ByteArray))))] ∧ Mem w [] w_ [box b616 48 [.int .i64 0, .int .i64 0, .int .i64 0, .slice none 0 0], own kStr 9 u622 t620]) ?_ ?_
  · skip
    refine run_region rfl ?_
    refine ops_ex rfl (guard_none rfl) rfl rfl (ex_move rfl rfl) ?_
    refine ops_ex rfl (guard_none rfl) rfl rfl (ex_len (d := kStr) (xs := t620) rfl rfl Tryd.underlying107 (HM.own_rd 0 rfl)) ?_
    refine ops_ex rfl (guard_none rfl) rfl rfl (ex_neq rfl rfl rfl) ?_
    refine ops_ex rfl (guard_none rfl) rfl rfl (ex_move rfl rfl) ?_
    refine bool_cases ((t620.length : Int) != 5) (fun hg628 => ?_) (fun hg628 => ?_)
    · skip
      refine ops_off rfl (guard_off rfl rfl rfl hg628) rfl rfl ?_
      refine ops_off rfl (guard_off rfl rfl rfl hg628) rfl rfl ?_
      refine ops_off rfl (guard_off rfl rfl rfl hg628) rfl rfl ?_
      refine ops_off rfl (guard_off rfl rfl rfl hg628) rfl rfl ?_
      have hg629 : (((t620.length : Int) != 5) || (!sEq (gt t620 (0 : Int)) (⟨#[98, 108, 111, 99, 107]⟩ : ByteArray))) = true := by simp only [hg628, Bool.and_true, Bool.true_and, Bool.and_false, Bool.false_and, Bool.or_true, Bool.true_or, Bool.or_false, Bool.false_or, Bool.not_true, Bool.not_false, Bool.not_not]
      refine ops_ex (v := .bool (((t620.length : Int) != 5) || (!sEq (gt t620 (0 : Int)) (⟨#[98, 108, 111, 99, 107]⟩ : ByteArray)))) rfl (guard_none rfl) rfl rfl (ex_por_t rfl rfl hg628) ?_
      refine ops_nil ?_
      replace HM := HM.front 1 rfl rfl
      exact at_meet [(2, .pointer (some ⟨b616, 0, none⟩)), (4, u622), (27, .bool (((t620.length : Int) != 5) || (!sEq (gt t620 (0 : Int)) (⟨#[98, 108, 111, 99, 107]⟩ : ByteArray))))] ⟨rfl, HM⟩ (Sub.cons rfl (Sub.cons rfl (Sub.cons rfl Sub.nil)))
    · skip
      refine ops_ex rfl (guard_on rfl rfl rfl hg628) rfl rfl (ex_move rfl rfl) ?_
      refine ops_ex rfl (guard_on rfl rfl rfl hg628) rfl rfl (ex_indexAddr (d := kStr) rfl rfl rfl Tryd.underlying107 tsz9 (HM.own_rd 0 rfl) (idx_lo (or_t e627 (not_mk hg628))) (idx_hi (or_t e627 (not_mk hg628)))) ?_
      refine ops_ex rfl (guard_on rfl rfl rfl hg628) rfl rfl (ex_load1 rfl rfl Tryd.underlying9 rfl ((rd_plain (HM.own_rd 0 rfl) (or_t e627 (not_mk hg628))) 0 _ rfl)) ?_
      refine ops_ex rfl (guard_on rfl rfl rfl hg628) rfl rfl (ex_sneq rfl rfl rfl) ?_
      refine ops_ex (v := .bool (((t620.length : Int) != 5) || (!sEq (gt t620 (0 : Int)) (⟨#[98, 108, 111, 99, 107]⟩ : ByteArray)))) rfl (guard_none rfl) rfl rfl (ex_por_f rfl rfl hg628 rfl) ?_
      refine ops_nil ?_
      replace HM := HM.front 1 rfl rfl
      exact at_meet [(2, .pointer (some ⟨b616, 0, none⟩)), (4, u622), (27, .bool (((t620.length : Int) != 5) || (!sEq (gt t620 (0 : Int)) (⟨#[98, 108, 111, 99, 107]⟩ : ByteArray))))] ⟨rfl, HM⟩ (Sub.cons rfl (Sub.cons rfl (Sub.cons rfl Sub.nil)))
  · rintro _ w630 ⟨rfl, HM⟩
    refine at_then ?_
    refine run_cond (b := (((t620.length : Int) != 5) || (!sEq (gt t620 (0 : Int)) (⟨#[98, 108, 111, 99, 107]⟩ : ByteArray)))) rfl (fun hb631 => ?_) (fun hb631 => ?_)
    · replace H := cond_t hb631 H
      refine run_seq ?_
      refine run_region rfl ?_
      refine ops_ex rfl (guard_none rfl) rfl rfl (ex_build (cells := #[(.int .i64 0), (.int .i64 0), (.int .i64 0), (.slice none 0 0)]) rfl rfl (by kernel_rfl)) ?_
      refine ops_doesS rfl (guard_none rfl) rfl (does_store (vs := [.int .i64 0, .int .i64 0, .int .i64 0, .slice none 0 0]) (cs' := [.int .i64 0, .int .i64 0, .int .i64 0, .slice none 0 0]) rfl rfl rfl rfl tsz48 (Ones.int (Ones.int (Ones.int (Ones.sl Ones.nil)))) rfl rfl HM) ?_
      rintro w632 HM
      refine ops_ex rfl (guard_none rfl) rfl rfl (ex_assign rfl rfl) ?_
      refine ops_nil ?_
      refine at_then ?_
      refine run_ret ?_
      refine at_then_ret ?_
      replace HM := HM.empty kInt 2 none
      replace HM := (HM.front 2 rfl rfl).drop
      replace HM := HM.front 1 rfl rfl
      have hcb0 := HM.box_at 0 rfl
      replace HM := (HM.front 0 rfl rfl).drop
      have hR := Option.some.inj H
      subst hR
      exact at_retN1 rfl rfl rfl Tryd.underlying48 rfl tsz48 rfl hcb0 ⟨_, rfl, _, rfl, HM⟩
    · replace H := cond_f hb631 H
      refine run_skip ?_
      refine at_then ?_
      refine run_seq ?_
      obtain ⟨e634, H⟩ := chk_some H
      obtain ⟨t635, h636, H⟩ := bind_some H
      refine run_region rfl ?_
      refine ops_ex rfl (guard_none rfl) rfl rfl (ex_move rfl rfl) ?_
      refine ops_ex rfl (guard_none rfl) rfl rfl (ex_indexAddr (d := kStr) rfl rfl rfl Tryd.underlying107 tsz9 (HM.own_rd 1 rfl) (idx_lo e634) (idx_hi e634)) ?_
      refine ops_ex rfl (guard_none rfl) rfl rfl (ex_load1 rfl rfl Tryd.underlying9 rfl ((rd_plain (HM.own_rd 1 rfl) e634) 0 _ rfl)) ?_
      refine ops_does rfl (guard_none rfl) rfl rfl (does_callk rfl callok89 rfl (spec_l2Number.calls (x0 := (gt t620 (1 : Int))) (x1 := 2) h636)) ?_
      rintro _ w637 ⟨rfl, hn⟩
      replace HM : Mem w [] w637 [box b616 48 [.int .i64 0, .int .i64 0, .int .i64 0, .slice none 0 0], own kStr 9 u622 t620] := HM.call hn
      refine ops_ex rfl (guard_none rfl) rfl rfl (ex_move rfl rfl) ?_
      refine ops_ex rfl (guard_none rfl) rfl rfl (ex_extract rfl rfl rfl) ?_
      refine ops_ex rfl (guard_none rfl) rfl rfl (ex_extract rfl rfl rfl) ?_
      refine ops_ex rfl (guard_none rfl) rfl rfl (ex_assign rfl rfl) ?_
      refine ops_ex rfl (guard_none rfl) rfl rfl (ex_assign rfl rfl) ?_
      refine ops_nil ?_
      refine at_then ?_
      refine run_seq ?_
      obtain ⟨e638, H⟩ := chk_some H
      obtain ⟨t639, h640, H⟩ := bind_some H
      refine run_region rfl ?_
      refine ops_ex rfl (guard_none rfl) rfl rfl (ex_move rfl rfl) ?_
      refine ops_ex rfl (guard_none rfl) rfl rfl (ex_indexAddr (d := kStr) rfl rfl rfl Tryd.underlying107 tsz9 (HM.own_rd 1 rfl) (idx_lo e638) (idx_hi e638)) ?_
      refine ops_ex rfl (guard_none rfl) rfl rfl (ex_load1 rfl rfl Tryd.underlying9 rfl ((rd_plain (HM.own_rd 1 rfl) e638) 0 _ rfl)) ?_
      refine ops_does rfl (guard_none rfl) rfl rfl (does_callk rfl callok89 rfl (spec_l2Number.calls (x0 := (gt t620 (2 : Int))) (x1 := 2) h640)) ?_
      rintro _ w641 ⟨rfl, hn⟩
      replace HM : Mem w [] w641 [box b616 48 [.int .i64 0, .int .i64 0, .int .i64 0, .slice none 0 0], own kStr 9 u622 t620] := HM.call hn
      refine ops_ex rfl (guard_none rfl) rfl rfl (ex_move rfl rfl) ?_
      refine ops_ex rfl (guard_none rfl) rfl rfl (ex_extract rfl rfl rfl) ?_
      refine ops_ex rfl (guard_none rfl) rfl rfl (ex_extract rfl rfl rfl) ?_
      refine ops_ex rfl (guard_none rfl) rfl rfl (ex_assign rfl rfl) ?_
      refine ops_ex rfl (guard_none rfl) rfl rfl (ex_assign rfl rfl) ?_
      refine ops_nil ?_
      refine at_then ?_
      refine run_seq ?_
      obtain ⟨e642, H⟩ := chk_some H
      obtain ⟨t643, h644, H⟩ := bind_some H
      refine run_region rfl ?_
      refine ops_ex rfl (guard_none rfl) rfl rfl (ex_move rfl rfl) ?_
      refine ops_ex rfl (guard_none rfl) rfl rfl (ex_indexAddr (d := kStr) rfl rfl rfl Tryd.underlying107 tsz9 (HM.own_rd 1 rfl) (idx_lo e642) (idx_hi e642)) ?_
      refine ops_ex rfl (guard_none rfl) rfl rfl (ex_load1 rfl rfl Tryd.underlying9 rfl ((rd_plain (HM.own_rd 1 rfl) e642) 0 _ rfl)) ?_
      refine ops_does rfl (guard_none rfl) rfl rfl (does_callk rfl callok89 rfl (spec_l2Number.calls (x0 := (gt t620 (3 : Int))) (x1 := 3) h644)) ?_
      rintro _ w645 ⟨rfl, hn⟩
      replace HM : Mem w [] w645 [box b616 48 [.int .i64 0, .int .i64 0, .int .i64 0, .slice none 0 0], own kStr 9 u622 t620] := HM.call hn
      refine ops_ex rfl (guard_none rfl) rfl rfl (ex_move rfl rfl) ?_
      refine ops_ex rfl (guard_none rfl) rfl rfl (ex_extract rfl rfl rfl) ?_
      refine ops_ex rfl (guard_none rfl) rfl rfl (ex_extract rfl rfl rfl) ?_
      refine ops_ex rfl (guard_none rfl) rfl rfl (ex_assign rfl rfl) ?_
      refine ops_ex rfl (guard_none rfl) rfl rfl (ex_assign rfl rfl) ?_
      refine ops_nil ?_
      refine at_then ?_
      refine run_seq ?_
      refine run_region rfl ?_
      refine ops_ex rfl (guard_none rfl) rfl rfl (ex_move rfl rfl) ?_
      refine ops_ex rfl (guard_none rfl) rfl rfl (ex_move rfl rfl) ?_
      refine ops_ex rfl (guard_none rfl) rfl rfl (ex_move rfl rfl) ?_
      refine ops_ex rfl (guard_none rfl) rfl rfl (ex_build (cells := #[(.int .i64 t635.1), (.int .i64 t639.1), (.int .i64 t643.1), (.slice none 0 0)]) rfl rfl (by kernel_rfl)) ?_
      refine ops_does rfl (guard_none rfl) rfl rfl (does_alloc (cs := [.int .i64 0, .int .i64 0, .int .i64 0, .slice none 0 0]) rfl tz48 rfl HM) ?_
      rintro _ w649 ⟨b646, rfl, HM⟩
      refine ops_doesS rfl (guard_none rfl) rfl (does_store (vs := [.int .i64 t635.1, .int .i64 t639.1, .int .i64 t643.1, .slice none 0 0]) (cs' := [.int .i64 t635.1, .int .i64 t639.1, .int .i64 t643.1, .slice none 0 0]) rfl rfl rfl rfl tsz48 (Ones.int (Ones.int (Ones.int (Ones.sl Ones.nil)))) rfl rfl HM) ?_
      rintro w650 HM
      refine ops_nil ?_
      refine at_then ?_
      refine run_seq ?_
      refine run_meet (fun ρ_ w_ => ρ_ = [(2, .pointer (some ⟨b616, 0, none⟩)), (4, u622), (11, .pointer (some ⟨b646, 0, none⟩)), (12, .bool ((t635.2 && t639.2) && t643.2))] ∧ Mem w [] w_ [box b616 48 [.int .i64 0, .int .i64 0, .int .i64 0, .slice none 0 0], own kStr 9 u622 t620, box b646 48 [.int .i64 t635.1, .int .i64 t639.1, .int .i64 t643.1, .slice none 0 0]]) ?_ ?_
      · skip
        refine run_region rfl ?_
        refine ops_ex rfl (guard_none rfl) rfl rfl (ex_move rfl rfl) ?_
        refine ops_ex rfl (guard_none rfl) rfl rfl (ex_move rfl rfl) ?_
        refine bool_cases t635.2 (fun hg651 => ?_) (fun hg651 => ?_)
        · skip
          refine ops_ex rfl (guard_on rfl rfl rfl hg651) rfl rfl (ex_move rfl rfl) ?_
          refine ops_ex (v := .bool (t635.2 && t639.2)) rfl (guard_none rfl) rfl rfl (ex_pand_t rfl rfl hg651 rfl) ?_
          refine ops_ex rfl (guard_none rfl) rfl rfl (ex_move rfl rfl) ?_
          refine bool_cases (t635.2 && t639.2) (fun hg652 => ?_) (fun hg652 => ?_)
          · skip
            refine ops_ex rfl (guard_on rfl rfl rfl hg652) rfl rfl (ex_move rfl rfl) ?_
            refine ops_ex (v := .bool ((t635.2 && t639.2) && t643.2)) rfl (guard_none rfl) rfl rfl (ex_pand_t rfl rfl hg652 rfl) ?_
            refine ops_ex rfl (guard_none rfl) rfl rfl (ex_assign rfl rfl) ?_
            refine ops_nil ?_
            replace HM := HM.front 2 rfl rfl
            replace HM := HM.front 2 rfl rfl
            exact at_meet [(2, .pointer (some ⟨b616, 0, none⟩)), (4, u622), (11, .pointer (some ⟨b646, 0, none⟩)), (12, .bool ((t635.2 && t639.2) && t643.2))] ⟨rfl, HM⟩ (Sub.cons rfl (Sub.cons rfl (Sub.cons rfl (Sub.cons rfl Sub.nil))))
          · skip
            refine ops_off rfl (guard_off rfl rfl rfl hg652) rfl rfl ?_
            have hg653 : ((t635.2 && t639.2) && t643.2) = false := by simp only [hg652, Bool.and_true, Bool.true_and, Bool.and_false, Bool.false_and, Bool.or_true, Bool.true_or, Bool.or_false, Bool.false_or, Bool.not_true, Bool.not_false, Bool.not_not]
            refine ops_ex (v := .bool ((t635.2 && t639.2) && t643.2)) rfl (guard_none rfl) rfl rfl (ex_pand_f rfl rfl hg652) ?_
            refine ops_ex rfl (guard_none rfl) rfl rfl (ex_assign rfl rfl) ?_
            refine ops_nil ?_
            replace HM := HM.front 2 rfl rfl
            replace HM := HM.front 2 rfl rfl
            exact at_meet [(2, .pointer (some ⟨b616, 0, none⟩)), (4, u622), (11, .pointer (some ⟨b646, 0, none⟩)), (12, .bool ((t635.2 && t639.2) && t643.2))] ⟨rfl, HM⟩ (Sub.cons rfl (Sub.cons rfl (Sub.cons rfl (Sub.cons rfl Sub.nil))))
        · skip
          refine ops_off rfl (guard_off rfl rfl rfl hg651) rfl rfl ?_
          have hg654 : (t635.2 && t639.2) = false := by simp only [hg651, Bool.and_true, Bool.true_and, Bool.and_false, Bool.false_and, Bool.or_true, Bool.true_or, Bool.or_false, Bool.false_or, Bool.not_true, Bool.not_false, Bool.not_not]
          refine ops_ex (v := .bool (t635.2 && t639.2)) rfl (guard_none rfl) rfl rfl (ex_pand_f rfl rfl hg651) ?_
          refine ops_ex rfl (guard_none rfl) rfl rfl (ex_move rfl rfl) ?_
          refine ops_off rfl (guard_off rfl rfl rfl hg654) rfl rfl ?_
          have hg655 : ((t635.2 && t639.2) && t643.2) = false := by simp only [hg654, Bool.and_true, Bool.true_and, Bool.and_false, Bool.false_and, Bool.or_true, Bool.true_or, Bool.or_false, Bool.false_or, Bool.not_true, Bool.not_false, Bool.not_not]
          refine ops_ex (v := .bool ((t635.2 && t639.2) && t643.2)) rfl (guard_none rfl) rfl rfl (ex_pand_f rfl rfl hg654) ?_
          refine ops_ex rfl (guard_none rfl) rfl rfl (ex_assign rfl rfl) ?_
          refine ops_nil ?_
          replace HM := HM.front 2 rfl rfl
          replace HM := HM.front 2 rfl rfl
          exact at_meet [(2, .pointer (some ⟨b616, 0, none⟩)), (4, u622), (11, .pointer (some ⟨b646, 0, none⟩)), (12, .bool ((t635.2 && t639.2) && t643.2))] ⟨rfl, HM⟩ (Sub.cons rfl (Sub.cons rfl (Sub.cons rfl (Sub.cons rfl Sub.nil))))
      · rintro _ w656 ⟨rfl, HM⟩
        refine at_then ?_
        refine run_seq ?_
        obtain ⟨e657, H⟩ := chk_some H
        obtain ⟨t658, h659, H⟩ := bind_some H
        refine run_region rfl ?_
        refine ops_ex rfl (guard_none rfl) rfl rfl (ex_move rfl rfl) ?_
        refine ops_ex rfl (guard_none rfl) rfl rfl (ex_indexAddr (d := kStr) rfl rfl rfl Tryd.underlying107 tsz9 (HM.own_rd 1 rfl) (idx_lo e657) (idx_hi e657)) ?_
        refine ops_ex rfl (guard_none rfl) rfl rfl (ex_load1 rfl rfl Tryd.underlying9 rfl ((rd_plain (HM.own_rd 1 rfl) e657) 0 _ rfl)) ?_
        refine ops_does rfl (guard_none rfl) rfl rfl (does_callk rfl callok88 rfl (spec_l2Cut.calls (x0 := (gt t620 (4 : Int))) (x1 := 43) h659)) ?_
        rintro u660 w662 ⟨_, rfl, hn⟩
        replace HM : Mem w [] w662 [own kStr 9 u660 t658, box b616 48 [.int .i64 0, .int .i64 0, .int .i64 0, .slice none 0 0], own kStr 9 u622 t620, box b646 48 [.int .i64 t635.1, .int .i64 t639.1, .int .i64 t643.1, .slice none 0 0]] := HM.call hn
        refine ops_ex rfl (guard_none rfl) rfl rfl (ex_assign rfl rfl) ?_
        refine ops_nil ?_
        refine at_then ?_
        obtain ⟨o705, ho706, H⟩ := bind_some H
        refine run_mid (fun ρ_ w_ => ∃ v701 : Value, ∃ a702 : List Int, ∃ a704 : Bool, (a702, a704) = o705 ∧ ρ_ = [(2, .pointer (some ⟨b616, 0, none⟩)), (11, .pointer (some ⟨b646, 0, none⟩)), (12, .bool a704)] ∧ Mem w [] w_ [box b616 48 [.int .i64 0, .int .i64 0, .int .i64 0, .slice none 0 0], box b646 48 [.int .i64 t635.1, .int .i64 t639.1, .int .i64 t643.1, v701], own kInt 2 v701 a702]) ?_ ?_
        · clear H
          refine run_seq ?_
          refine run_region rfl ?_
          refine ops_ex rfl (guard_none rfl) rfl rfl (ex_assign rfl rfl) ?_
          refine ops_nil ?_
          refine at_then ?_
          refine run_block ?_
          replace HM := HM.empty kInt 2 none
          replace HM := HM.front 1 rfl rfl
          replace HM := HM.front 1 rfl rfl
          replace HM := HM.front 4 rfl rfl
          replace HM := HM.front 4 rfl rfl
          replace HM := HM.front 4 rfl rfl
          refine run_loop (fun k_ ρ_ w_ => ∃ v718 : Value, ∃ a719 : List Int, ∃ a721 : Bool, ∃ a722 : Int, spec_l7Parse.l0 t620 t658 k_ a719 a721 a722 = some o705 ∧ ρ_ = [(2, .pointer (some ⟨b616, 0, none⟩)), (4, u622), (11, .pointer (some ⟨b646, 0, none⟩)), (12, .bool a721), (13, u660), (14, .int .i64 a722)] ∧ Mem w [] w_ [box b616 48 [.int .i64 0, .int .i64 0, .int .i64 0, .slice none 0 0], own kStr 9 u622 t620, box b646 48 [.int .i64 t635.1, .int .i64 t639.1, .int .i64 t643.1, v718], own kInt 2 v718 a719, own kStr 9 u660 t658]) k (ρ1 := [(2, .pointer (some ⟨b616, 0, none⟩)), (4, u622), (11, .pointer (some ⟨b646, 0, none⟩)), (12, .bool ((t635.2 && t639.2) && t643.2)), (13, u660), (14, .int .i64 0)]) ⟨_, _, _, _, ho706, rfl, HM⟩ (Sub.cons rfl (Sub.cons rfl (Sub.cons rfl (Sub.cons rfl (Sub.cons rfl (Sub.cons rfl Sub.nil)))))) ?_
          clear HM ho706
          rintro k735 _ w736 ⟨v718, a719, a721, a722, ho706, rfl, HM⟩
          obtain _ | k735 := k735
          · exact nomatch ((spec_l7Parse.l0_z t620 t658 a719 a721 a722).symm.trans ho706)
          replace ho706 := (spec_l7Parse.l0_s t620 t658 k735 a719 a721 a722).symm.trans ho706
          refine run_seq ?_
          refine run_seq ?_
          obtain ⟨e737, ho706⟩ := chk_some ho706
          refine run_meet (fun ρ_ w_ => ρ_ = [(2, .pointer (some ⟨b616, 0, none⟩)), (4, u622), (11, .pointer (some ⟨b646, 0, none⟩)), (12, .bool a721), (13, u660), (14, .int .i64 a722), (74, .bool ((decide (a722 < (t658.length : Int))) && (!sEq (gt t620 (4 : Int)) (⟨#[45]⟩ : ByteArray))))] ∧ Mem w [] w_ [box b616 48 [.int .i64 0, .int .i64 0, .int .i64 0, .slice none 0 0], own kStr 9 u622 t620, box b646 48 [.int .i64 t635.1, .int .i64 t639.1, .int .i64 t643.1, v718], own kInt 2 v718 a719, own kStr 9 u660 t658]) ?_ ?_
          · skip
            refine run_region rfl ?_
            refine ops_ex rfl (guard_none rfl) rfl rfl (ex_move rfl rfl) ?_
            refine ops_ex rfl (guard_none rfl) rfl rfl (ex_move rfl rfl) ?_
            refine ops_ex rfl (guard_none rfl) rfl rfl (ex_len (d := kStr) (xs := t658) rfl rfl Tryd.underlying107 (HM.own_rd 4 rfl)) ?_
            refine ops_ex rfl (guard_none rfl) rfl rfl (ex_lss rfl rfl rfl) ?_
            refine ops_ex rfl (guard_none rfl) rfl rfl (ex_move rfl rfl) ?_
            refine bool_cases (decide (a722 < (t658.length : Int))) (fun hg738 => ?_) (fun hg738 => ?_)
            · skip
              refine ops_ex rfl (guard_on rfl rfl rfl hg738) rfl rfl (ex_move rfl rfl) ?_
              refine ops_ex rfl (guard_on rfl rfl rfl hg738) rfl rfl (ex_indexAddr (d := kStr) rfl rfl rfl Tryd.underlying107 tsz9 (HM.own_rd 1 rfl) (idx_lo (or_t e737 hg738)) (idx_hi (or_t e737 hg738))) ?_
              refine ops_ex rfl (guard_on rfl rfl rfl hg738) rfl rfl (ex_load1 rfl rfl Tryd.underlying9 rfl ((rd_plain (HM.own_rd 1 rfl) (or_t e737 hg738)) 0 _ rfl)) ?_
              refine ops_ex rfl (guard_on rfl rfl rfl hg738) rfl rfl (ex_sneq rfl rfl rfl) ?_
              refine ops_ex (v := .bool ((decide (a722 < (t658.length : Int))) && (!sEq (gt t620 (4 : Int)) (⟨#[45]⟩ : ByteArray)))) rfl (guard_none rfl) rfl rfl (ex_pand_t rfl rfl hg738 rfl) ?_
              refine ops_nil ?_
              exact at_meet [(2, .pointer (some ⟨b616, 0, none⟩)), (4, u622), (11, .pointer (some ⟨b646, 0, none⟩)), (12, .bool a721), (13, u660), (14, .int .i64 a722), (74, .bool ((decide (a722 < (t658.length : Int))) && (!sEq (gt t620 (4 : Int)) (⟨#[45]⟩ : ByteArray))))] ⟨rfl, HM⟩ (Sub.cons rfl (Sub.cons rfl (Sub.cons rfl (Sub.cons rfl (Sub.cons rfl (Sub.cons rfl (Sub.cons rfl Sub.nil)))))))
            · skip
              refine ops_off rfl (guard_off rfl rfl rfl hg738) rfl rfl ?_
              refine ops_off rfl (guard_off rfl rfl rfl hg738) rfl rfl ?_
              refine ops_off rfl (guard_off rfl rfl rfl hg738) rfl rfl ?_
              refine ops_off rfl (guard_off rfl rfl rfl hg738) rfl rfl ?_
              have hg739 : ((decide (a722 < (t658.length : Int))) && (!sEq (gt t620 (4 : Int)) (⟨#[45]⟩ : ByteArray))) = false := by simp only [hg738, Bool.and_true, Bool.true_and, Bool.and_false, Bool.false_and, Bool.or_true, Bool.true_or, Bool.or_false, Bool.false_or, Bool.not_true, Bool.not_false, Bool.not_not]
              refine ops_ex (v := .bool ((decide (a722 < (t658.length : Int))) && (!sEq (gt t620 (4 : Int)) (⟨#[45]⟩ : ByteArray)))) rfl (guard_none rfl) rfl rfl (ex_pand_f rfl rfl hg738) ?_
              refine ops_nil ?_
              exact at_meet [(2, .pointer (some ⟨b616, 0, none⟩)), (4, u622), (11, .pointer (some ⟨b646, 0, none⟩)), (12, .bool a721), (13, u660), (14, .int .i64 a722), (74, .bool ((decide (a722 < (t658.length : Int))) && (!sEq (gt t620 (4 : Int)) (⟨#[45]⟩ : ByteArray))))] ⟨rfl, HM⟩ (Sub.cons rfl (Sub.cons rfl (Sub.cons rfl (Sub.cons rfl (Sub.cons rfl (Sub.cons rfl (Sub.cons rfl Sub.nil)))))))
          · rintro _ w740 ⟨rfl, HM⟩
            refine at_then ?_
            refine run_cond (b := ((decide (a722 < (t658.length : Int))) && (!sEq (gt t620 (4 : Int)) (⟨#[45]⟩ : ByteArray)))) rfl (fun hb741 => ?_) (fun hb741 => ?_)
            · replace ho706 := cond_t hb741 ho706
              refine run_skip ?_
              refine at_then ?_
              refine run_seq ?_
              refine run_block ?_
              refine run_seq ?_
              obtain ⟨e742, ho706⟩ := chk_some ho706
              obtain ⟨t743, h744, ho706⟩ := bind_some ho706
              refine run_region rfl ?_
              refine ops_ex rfl (guard_none rfl) rfl rfl (ex_move rfl rfl) ?_
              refine ops_ex rfl (guard_none rfl) rfl rfl (ex_move rfl rfl) ?_
              refine ops_ex rfl (guard_none rfl) rfl rfl (ex_indexAddr (d := kStr) rfl rfl rfl Tryd.underlying107 tsz9 (HM.own_rd 4 rfl) (idx_lo e742) (idx_hi e742)) ?_
              refine ops_ex rfl (guard_none rfl) rfl rfl (ex_load1 rfl rfl Tryd.underlying9 rfl ((rd_plain (HM.own_rd 4 rfl) e742) 0 _ rfl)) ?_
              refine ops_does rfl (guard_none rfl) rfl rfl (does_callk rfl callok89 rfl (spec_l2Number.calls (x0 := (gt t658 a722)) (x1 := 2) h744)) ?_
              rintro _ w745 ⟨rfl, hn⟩
              replace HM : Mem w [] w745 [box b616 48 [.int .i64 0, .int .i64 0, .int .i64 0, .slice none 0 0], own kStr 9 u622 t620, box b646 48 [.int .i64 t635.1, .int .i64 t639.1, .int .i64 t643.1, v718], own kInt 2 v718 a719, own kStr 9 u660 t658] := HM.call hn
              refine ops_ex rfl (guard_none rfl) rfl rfl (ex_move rfl rfl) ?_
              refine ops_ex rfl (guard_none rfl) rfl rfl (ex_extract rfl rfl rfl) ?_
              refine ops_ex rfl (guard_none rfl) rfl rfl (ex_extract rfl rfl rfl) ?_
              refine ops_ex rfl (guard_none rfl) rfl rfl (ex_assign rfl rfl) ?_
              refine ops_ex rfl (guard_none rfl) rfl rfl (ex_assign rfl rfl) ?_
              refine ops_nil ?_
              refine at_then ?_
              refine run_seq ?_
              refine run_meet (fun ρ_ w_ => ρ_ = [(2, .pointer (some ⟨b616, 0, none⟩)), (4, u622), (11, .pointer (some ⟨b646, 0, none⟩)), (12, .bool (a721 && t743.2)), (13, u660), (14, .int .i64 a722), (15, .int .i64 t743.1)] ∧ Mem w [] w_ [box b616 48 [.int .i64 0, .int .i64 0, .int .i64 0, .slice none 0 0], own kStr 9 u622 t620, box b646 48 [.int .i64 t635.1, .int .i64 t639.1, .int .i64 t643.1, v718], own kInt 2 v718 a719, own kStr 9 u660 t658]) ?_ ?_
              · skip
                refine run_region rfl ?_
                refine ops_ex rfl (guard_none rfl) rfl rfl (ex_move rfl rfl) ?_
                refine ops_ex rfl (guard_none rfl) rfl rfl (ex_move rfl rfl) ?_
                refine bool_cases a721 (fun hg746 => ?_) (fun hg746 => ?_)
                · skip
                  refine ops_ex rfl (guard_on rfl rfl rfl hg746) rfl rfl (ex_move rfl rfl) ?_
                  refine ops_ex (v := .bool (a721 && t743.2)) rfl (guard_none rfl) rfl rfl (ex_pand_t rfl rfl hg746 rfl) ?_
                  refine ops_ex rfl (guard_none rfl) rfl rfl (ex_assign rfl rfl) ?_
                  refine ops_nil ?_
                  exact at_meet [(2, .pointer (some ⟨b616, 0, none⟩)), (4, u622), (11, .pointer (some ⟨b646, 0, none⟩)), (12, .bool (a721 && t743.2)), (13, u660), (14, .int .i64 a722), (15, .int .i64 t743.1)] ⟨rfl, HM⟩ (Sub.cons rfl (Sub.cons rfl (Sub.cons rfl (Sub.cons rfl (Sub.cons rfl (Sub.cons rfl (Sub.cons rfl Sub.nil)))))))
                · skip
                  refine ops_off rfl (guard_off rfl rfl rfl hg746) rfl rfl ?_
                  have hg747 : (a721 && t743.2) = false := by simp only [hg746, Bool.and_true, Bool.true_and, Bool.and_false, Bool.false_and, Bool.or_true, Bool.true_or, Bool.or_false, Bool.false_or, Bool.not_true, Bool.not_false, Bool.not_not]
                  refine ops_ex (v := .bool (a721 && t743.2)) rfl (guard_none rfl) rfl rfl (ex_pand_f rfl rfl hg746) ?_
                  refine ops_ex rfl (guard_none rfl) rfl rfl (ex_assign rfl rfl) ?_
                  refine ops_nil ?_
                  exact at_meet [(2, .pointer (some ⟨b616, 0, none⟩)), (4, u622), (11, .pointer (some ⟨b646, 0, none⟩)), (12, .bool (a721 && t743.2)), (13, u660), (14, .int .i64 a722), (15, .int .i64 t743.1)] ⟨rfl, HM⟩ (Sub.cons rfl (Sub.cons rfl (Sub.cons rfl (Sub.cons rfl (Sub.cons rfl (Sub.cons rfl (Sub.cons rfl Sub.nil)))))))
              · rintro _ w748 ⟨rfl, HM⟩
                refine at_then ?_
                obtain ⟨e752, ho706⟩ := chk_some ho706
                refine run_region rfl ?_
                refine ops_ex rfl (guard_none rfl) rfl rfl (ex_fieldAddr (off' := 3) rfl rfl Tryd.underlying48 rfl tsz38 rfl) ?_
                refine ops_ex rfl (guard_none rfl) rfl rfl (ex_load1 rfl rfl Tryd.underlying38 rfl ((HM.box_at 2 rfl) 3 _ rfl)) ?_
                refine ops_ex rfl (guard_none rfl) rfl rfl (ex_move rfl rfl) ?_
                refine ops_does rfl (guard_none rfl) rfl rfl (does_lit (e := 2) (cs := [.int .i64 t743.1]) (xs := ([t743.1] : List Int)) kInt rfl rfl (fun _ => by kernel_rfl) rfl rfl (fun _ _ h => by have h' : _ = [] := h; subst h'; exact (Elems.cons (d := kInt) (f := []) ⟨rfl, rfl⟩ .nil)) HM.emp) ?_
                rintro v749 w755 HM
                replace HM := HM.front 4 rfl rfl
                refine ops_does rfl (guard_none rfl) rfl rfl (does_appendR kInt flat_plain rfl rfl rfl Tryd.underlying38 tsz2 rfl tby2 tz2 rfl rfl (leB_le e752) (HM.own_rd 1 rfl) HM) ?_
                rintro v753 w756 HM
                refine ops_ex rfl (guard_none rfl) rfl rfl (ex_fieldAddr (off' := 3) rfl rfl Tryd.underlying48 rfl tsz38 rfl) ?_
                replace HM := HM.front 4 rfl rfl
                refine ops_doesS rfl (guard_none rfl) rfl (does_store (vs := [v753]) (cs' := [.int .i64 t635.1, .int .i64 t639.1, .int .i64 t643.1, v753]) rfl rfl rfl (rd_cells (HM.own_rd 1 rfl)) tsz38 (Ones.rd (HM.own_rd 1 rfl) Ones.nil) rfl rfl HM) ?_
                rintro w757 HM
                refine ops_nil ?_
                refine at_block ?_
                refine at_then ?_
                refine run_region rfl ?_
                refine ops_ex rfl (guard_none rfl) rfl rfl (ex_move rfl rfl) ?_
                refine ops_ex rfl (guard_none rfl) rfl rfl (ex_add rfl rfl rfl) ?_
                refine ops_ex rfl (guard_none rfl) rfl rfl (ex_assign rfl rfl) ?_
                refine ops_nil ?_
                replace HM := (HM.front 2 rfl rfl).drop
                replace HM := HM.front 4 rfl rfl
                replace HM := HM.front 2 rfl rfl
                replace HM := HM.front 2 rfl rfl
                replace HM := HM.front 4 rfl rfl
                replace HM := HM.front 4 rfl rfl
                exact at_again k735 (ρ1 := [(2, .pointer (some ⟨b616, 0, none⟩)), (4, u622), (11, .pointer (some ⟨b646, 0, none⟩)), (12, .bool (a721 && t743.2)), (13, u660), (14, .int .i64 (wrap64 (a722 + 1)))]) (Nat.lt_succ_self _) ⟨_, _, _, _, ho706, rfl, HM⟩ (Sub.cons rfl (Sub.cons rfl (Sub.cons rfl (Sub.cons rfl (Sub.cons rfl (Sub.cons rfl Sub.nil))))))
            · replace ho706 := cond_f hb741 ho706
              refine run_exit ?_
              refine at_then_exit ?_
              refine at_then_exit ?_
              refine at_block_exit ?_
              replace HM := (HM.front 1 rfl rfl).drop
              replace HM := (HM.front 3 rfl rfl).drop
              exact at_mid (ρ' := [(2, .pointer (some ⟨b616, 0, none⟩)), (11, .pointer (some ⟨b646, 0, none⟩)), (12, .bool a721)]) ⟨_, _, _, (Option.some.inj ho706), rfl, HM⟩ (Sub.cons rfl (Sub.cons rfl (Sub.cons rfl Sub.nil)))
        · rintro _ w758 ⟨v701, a702, a704, rfl, rfl, HM⟩
          replace H := cur2_mk H
          refine run_seq ?_
          obtain ⟨t759, h760, H⟩ := bind_some H
          refine run_meet (fun ρ_ w_ => ρ_ = [(2, .pointer (some ⟨b616, 0, none⟩)), (3, .bool (a704 && (t759 == 0)))] ∧ Mem w [] w_ [box b616 48 [.int .i64 t635.1, .int .i64 t639.1, .int .i64 t643.1, v701], own kInt 2 v701 a702]) ?_ ?_
          · skip
            refine run_drawf (fun w_ => Mem w [] w_ [box b646 48 [.int .i64 t635.1, .int .i64 t639.1, .int .i64 t643.1, v701], own kInt 2 v701 a702]) [(0, true), (1, true), (2, true), (3, false), (4, true), (5, true), (6, false), (7, true)] mixed rfl rfl (by kernel_rfl) ?_
            replace HM := HM.grow (fr_drew _)
            have hS := Mem.suf (M := [box b616 48 [.int .i64 0, .int .i64 0, .int .i64 0, .slice none 0 0]]) HM
            refine drwp_take rfl (guard_none rfl) rfl rfl (fun w_ hS_ => (ex_loadN (cs := [(.int .i64 t635.1), (.int .i64 t639.1), (.int .i64 t643.1), v701]) rfl rfl Tryd.underlying48 rfl tsz48 rfl ((hS_.box_at 0 rfl).sub 0 4 rfl))) hS ?_
            refine drwp_take rfl (guard_none rfl) rfl rfl (fun w_ hS_ => (ex_move rfl rfl)) hS ?_
            refine drwp_take rfl (guard_none rfl) rfl rfl (fun w_ hS_ => (ex_move rfl rfl)) hS ?_
            refine bool_cases a704 (fun hg761 => ?_) (fun hg761 => ?_)
            · skip
              refine drwp_one rfl (guard_on rfl rfl rfl hg761) rfl rfl (does_callk rfl callok60 rfl (spec_l7Fault.calls (x0 := (⟨t635.1, t639.1, t643.1, a702⟩ : Block)) (HM.box_at 1 rfl) (HM.own_rd 2 rfl) (cond_t hg761 h760))) ?_
              rintro _ w762 ⟨rfl, hn⟩
              replace HM : Mem w [] w762 [box b616 48 [.int .i64 0, .int .i64 0, .int .i64 0, .slice none 0 0], box b646 48 [.int .i64 t635.1, .int .i64 t639.1, .int .i64 t643.1, v701], own kInt 2 v701 a702] := HM.call hn
              refine ⟨Mem.suf (M := [box b616 48 [.int .i64 0, .int .i64 0, .int .i64 0, .slice none 0 0]]) HM, ?_⟩
              have hS := Mem.suf (M := [box b616 48 [.int .i64 0, .int .i64 0, .int .i64 0, .slice none 0 0]]) HM
              refine drwp_take rfl (guard_on rfl rfl rfl hg761) rfl rfl (fun w_ hS_ => (ex_eql rfl rfl rfl)) hS ?_
              refine drwp_take (v := .bool (a704 && (t759 == 0))) rfl (guard_none rfl) rfl rfl (fun w_ hS_ => (ex_pand_t rfl rfl hg761 rfl)) hS ?_
              refine drwp_oneS rfl (guard_none rfl) rfl (does_store (vs := [.int .i64 t635.1, .int .i64 t639.1, .int .i64 t643.1, v701]) (cs' := [.int .i64 t635.1, .int .i64 t639.1, .int .i64 t643.1, v701]) rfl rfl rfl rfl tsz48 (Ones.int (Ones.int (Ones.int (Ones.rd (HM.own_rd 2 rfl) Ones.nil)))) rfl rfl HM) ?_
              rintro w763 HM
              refine ⟨Mem.suf (M := [box b616 48 [.int .i64 t635.1, .int .i64 t639.1, .int .i64 t643.1, v701]]) HM, ?_⟩
              have hS := Mem.suf (M := [box b616 48 [.int .i64 t635.1, .int .i64 t639.1, .int .i64 t643.1, v701]]) HM
              refine drwp_take rfl (guard_none rfl) rfl rfl (fun w_ hS_ => (ex_assign rfl rfl)) hS ?_
              refine drwp_done ?_
              replace HM := (HM.front 1 rfl rfl).drop
              exact at_meet [(2, .pointer (some ⟨b616, 0, none⟩)), (3, .bool (a704 && (t759 == 0)))] ⟨rfl, HM⟩ (Sub.cons rfl (Sub.cons rfl Sub.nil))
            · skip
              refine drwp_off1 rfl (guard_off rfl rfl rfl hg761) rfl rfl ⟨hS, ?_⟩
              refine drwp_off rfl (guard_off rfl rfl rfl hg761) rfl rfl hS ?_
              have hg764 : (a704 && (t759 == 0)) = false := by simp only [hg761, Bool.and_true, Bool.true_and, Bool.and_false, Bool.false_and, Bool.or_true, Bool.true_or, Bool.or_false, Bool.false_or, Bool.not_true, Bool.not_false, Bool.not_not]
              refine drwp_take (v := .bool (a704 && (t759 == 0))) rfl (guard_none rfl) rfl rfl (fun w_ hS_ => (ex_pand_f rfl rfl hg761)) hS ?_
              refine drwp_oneS rfl (guard_none rfl) rfl (does_store (vs := [.int .i64 t635.1, .int .i64 t639.1, .int .i64 t643.1, v701]) (cs' := [.int .i64 t635.1, .int .i64 t639.1, .int .i64 t643.1, v701]) rfl rfl rfl rfl tsz48 (Ones.int (Ones.int (Ones.int (Ones.rd (HM.own_rd 2 rfl) Ones.nil)))) rfl rfl HM) ?_
              rintro w765 HM
              refine ⟨Mem.suf (M := [box b616 48 [.int .i64 t635.1, .int .i64 t639.1, .int .i64 t643.1, v701]]) HM, ?_⟩
              have hS := Mem.suf (M := [box b616 48 [.int .i64 t635.1, .int .i64 t639.1, .int .i64 t643.1, v701]]) HM
              refine drwp_take rfl (guard_none rfl) rfl rfl (fun w_ hS_ => (ex_assign rfl rfl)) hS ?_
              refine drwp_done ?_
              replace HM := (HM.front 1 rfl rfl).drop
              exact at_meet [(2, .pointer (some ⟨b616, 0, none⟩)), (3, .bool (a704 && (t759 == 0)))] ⟨rfl, HM⟩ (Sub.cons rfl (Sub.cons rfl Sub.nil))
          · rintro _ w766 ⟨rfl, HM⟩
            refine at_then ?_
            refine run_ret ?_
            have hcb0 := HM.box_at 0 rfl
            replace HM := (HM.front 0 rfl rfl).drop
            have hR := Option.some.inj H
            subst hR
            exact at_retN1 rfl rfl rfl Tryd.underlying48 rfl tsz48 rfl hcb0 ⟨_, rfl, _, rfl, HM⟩

def spec_ParseBlock.f (k : Nat) (x0 : ByteArray) : Option BlockResult := ((spec_l7Parse.f k x0).bind fun t779 => (bif !t779.2 then some (⟨5, (⟨0, 0, 0, ([] : List Int)⟩ : Block)⟩ : BlockResult) else some (⟨0, (⟨t779.1.fPrev, t779.1.fHeight, t779.1.fMiner, t779.1.fTxs⟩ : Block)⟩ : BlockResult)))
theorem spec_ParseBlock.calls {k : Nat} {x0 : ByteArray}  {w : World}  {r : BlockResult} (H : spec_ParseBlock.f k x0 = some r) :
    Calls Tryd.prog 18 ([.string x0] : List Value).toArray w (fun e w_ => ∃ v, e = .returned v ∧ ∃ u0 : Value, v = (.agg #[.int .i64 r.fCode, .int .i64 r.fBlock.fPrev, .int .i64 r.fBlock.fHeight, .int .i64 r.fBlock.fMiner, u0]) ∧ Mem w [] w_ [own kInt 2 u0 r.fBlock.fTxs]) := by
  have HM := Mem.start w
  refine calls_run (N := 15) Tryd.func18 rfl rfl rfl rfl ?_
  unfold spec_ParseBlock.f at H
  refine run_seq ?_
  refine run_region rfl ?_
  refine ops_does rfl (guard_none rfl) rfl rfl (does_alloc (cs := [.int .i64 0, .int .i64 0, .int .i64 0, .int .i64 0, .slice none 0 0]) rfl tz50 rfl HM) ?_
  rintro _ w778 ⟨b775, rfl, HM⟩
  refine ops_nil ?_
  refine at_then ?_
  refine run_seq ?_
  obtain ⟨t779, h780, H⟩ := bind_some H
  refine run_region rfl ?_
  refine ops_ex rfl (guard_none rfl) rfl rfl (ex_move rfl rfl) ?_
  refine ops_does rfl (guard_none rfl) rfl rfl (does_callk rfl callok48 rfl (spec_l7Parse.calls (x0 := x0) h780)) ?_
  rintro _ w786 ⟨u781, rfl, hn⟩
  replace HM : Mem w [] w786 [own kInt 2 u781 t779.1.fTxs, box b775 50 [.int .i64 0, .int .i64 0, .int .i64 0, .int .i64 0, .slice none 0 0]] := HM.call hn
  refine ops_ex rfl (guard_none rfl) rfl rfl (ex_move rfl rfl) ?_
  refine ops_ex rfl (guard_none rfl) rfl rfl (ex_extract rfl rfl rfl) ?_
  refine ops_ex rfl (guard_none rfl) rfl rfl (ex_extract rfl rfl rfl) ?_
  refine ops_does rfl (guard_none rfl) rfl rfl (does_alloc (cs := [.int .i64 0, .int .i64 0, .int .i64 0, .slice none 0 0]) rfl tz48 rfl HM) ?_
  rintro _ w787 ⟨b783, rfl, HM⟩
  refine ops_doesS rfl (guard_none rfl) rfl (does_store (vs := [.int .i64 t779.1.fPrev, .int .i64 t779.1.fHeight, .int .i64 t779.1.fMiner, u781]) (cs' := [.int .i64 t779.1.fPrev, .int .i64 t779.1.fHeight, .int .i64 t779.1.fMiner, u781]) rfl rfl rfl rfl tsz48 (Ones.int (Ones.int (Ones.int (Ones.rd (HM.own_rd 1 rfl) Ones.nil)))) rfl rfl HM) ?_
  rintro w788 HM
  refine ops_ex rfl (guard_none rfl) rfl rfl (ex_assign rfl rfl) ?_
  refine ops_nil ?_
  refine at_then ?_
  refine run_seq ?_
  refine run_seq ?_
  refine run_region rfl ?_
  refine ops_ex rfl (guard_none rfl) rfl rfl (ex_move rfl rfl) ?_
  refine ops_ex rfl (guard_none rfl) rfl rfl (ex_not rfl rfl) ?_
  refine ops_nil ?_
  refine at_then ?_
  refine run_cond (b := !t779.2) rfl (fun hb789 => ?_) (fun hb789 => ?_)
  · replace H := cond_t hb789 H
    refine run_seq ?_
    refine run_region rfl ?_
    refine ops_ex rfl (guard_none rfl) rfl rfl (ex_build (cells := #[(.int .i64 5), (.int .i64 0), (.int .i64 0), (.int .i64 0), (.slice none 0 0)]) rfl rfl (by kernel_rfl)) ?_
    replace HM := HM.front 2 rfl rfl
    refine ops_doesS rfl (guard_none rfl) rfl (does_store (vs := [.int .i64 5, .int .i64 0, .int .i64 0, .int .i64 0, .slice none 0 0]) (cs' := [.int .i64 5, .int .i64 0, .int .i64 0, .int .i64 0, .slice none 0 0]) rfl rfl rfl rfl tsz50 (Ones.int (Ones.int (Ones.int (Ones.int (Ones.sl Ones.nil))))) rfl rfl HM) ?_
    rintro w790 HM
    refine ops_nil ?_
    refine at_then ?_
    refine run_ret ?_
    refine at_then_ret ?_
    replace HM := HM.empty kInt 2 none
    replace HM := (HM.front 2 rfl rfl).drop
    replace HM := (HM.front 2 rfl rfl).drop
    replace HM := HM.front 1 rfl rfl
    have hcb0 := HM.box_at 0 rfl
    replace HM := (HM.front 0 rfl rfl).drop
    have hR := Option.some.inj H
    subst hR
    exact at_retN rfl rfl Tryd.underlying50 rfl tsz50 rfl hcb0 ⟨_, rfl, _, rfl, HM⟩
  · replace H := cond_f hb789 H
    refine run_skip ?_
    refine at_then ?_
    refine run_seq ?_
    refine run_region rfl ?_
    refine ops_ex rfl (guard_none rfl) rfl rfl (ex_loadN (cs := [(.int .i64 t779.1.fPrev), (.int .i64 t779.1.fHeight), (.int .i64 t779.1.fMiner), u781]) rfl rfl Tryd.underlying48 rfl tsz48 rfl ((HM.box_at 0 rfl).sub 0 4 rfl)) ?_
    refine ops_ex rfl (guard_none rfl) rfl rfl (ex_build1 (fun u781 => [(1, .agg #[(.int .i64 t779.1.fPrev), (.int .i64 t779.1.fHeight), (.int .i64 t779.1.fMiner), u781])]) (fun u781 => #[.int .i64 0, .int .i64 t779.1.fPrev, .int .i64 t779.1.fHeight, .int .i64 t779.1.fMiner, u781]) rfl rfl (fun _ _ _ => by kernel_rfl) (HM.own_rd 1 rfl).isSl) ?_
    replace HM := HM.front 2 rfl rfl
    refine ops_doesS rfl (guard_none rfl) rfl (does_store (vs := [.int .i64 0, .int .i64 t779.1.fPrev, .int .i64 t779.1.fHeight, .int .i64 t779.1.fMiner, u781]) (cs' := [.int .i64 0, .int .i64 t779.1.fPrev, .int .i64 t779.1.fHeight, .int .i64 t779.1.fMiner, u781]) rfl rfl rfl rfl tsz50 (Ones.int (Ones.int (Ones.int (Ones.int (Ones.rd (HM.own_rd 2 rfl) Ones.nil))))) rfl rfl HM) ?_
    rintro w792 HM
    refine ops_nil ?_
    refine at_then ?_
    refine run_ret ?_
    replace HM := (HM.front 1 rfl rfl).drop
    have hcb0 := HM.box_at 0 rfl
    replace HM := (HM.front 0 rfl rfl).drop
    have hR := Option.some.inj H
    subst hR
    exact at_retN rfl rfl Tryd.underlying50 rfl tsz50 rfl hcb0 ⟨_, rfl, _, rfl, HM⟩

def strings_Split.f (k : Nat) (x0 x1 : ByteArray) : Option (List ByteArray) := (chk (leB 1 x1.size && leB x0.size 4294967280) (some (Lib.splitB x1 0 (Lib.countB x0 x1) x0)))
theorem strings_Split.calls {k : Nat} {x0 x1 : ByteArray} {w : World} (htab : TabP w) {r : List ByteArray} (H : strings_Split.f k x0 x1 = some r) :
    Calls Tryd.prog 91 ([.string x0, .string x1] : List Value).toArray w (fun e w_ => ∃ v, e = .returned v ∧ ∃ u0 : Value, v = u0 ∧ Mem w [] w_ [own kStr 9 u0 r]) := by
  obtain ⟨h, H⟩ := chk_some H
  have hR := Option.some.inj H
  subst hR
  rw [Bool.and_eq_true] at h
  have h1 : 1 ≤ x1.size := leB_le h.1
  have h0 : x0.size ≤ 4294967280 := leB_le h.2
  obtain ⟨m, hm⟩ := htab.maxLen
  refine (Tryd.strings_Split x0 x1 m w (by omega) hm h1).mono fun e w_ ⟨he, hw⟩ => ⟨_, he, _, rfl, ?_⟩
  subst hw
  have hc := Lib.countB_le x1 h1 _ x0 (Nat.le_refl _)
  exact mem_row rfl (Lib.splitB_all x1 h1 0 _ x0 rfl) (by unfold maxLen; omega) (fun w => by simpa using Elems.strs (d := kStr) (fun x => ⟨rfl, rfl⟩) _)

def strconv_ParseInt.f (k : Nat) (x0 : ByteArray) (x1 x2 : Int) : Option (Int × Bool) := (chk ((x1 == 10 && x2 == 64) && leB x0.size 281474976710656) (some (piR x0.data.toList (Lib.parseIntB 64 x0.data.toList))))
theorem strconv_ParseInt.calls {k : Nat} {x0 : ByteArray} {x1 x2 : Int} {w : World} (htab : TabP w) {r : Int × Bool} (H : strconv_ParseInt.f k x0 x1 x2 = some r) :
    Calls Tryd.prog 110 ([.string x0, .int .i64 x1, .int .i64 x2] : List Value).toArray w (fun e w_ => ∃ v, e = .returned v ∧ ∃ u0 : Value, ErrV u0 r.2 ∧ v = .tuple #[.int .i64 r.1, u0] ∧ Mem w [] w_ []) := by
  obtain ⟨h, H⟩ := chk_some H
  have hR := Option.some.inj H
  subst hR
  simp only [Bool.and_eq_true, beq_iff_eq] at h
  obtain ⟨⟨rfl, rfl⟩, h⟩ := h
  have h0 : x0.size ≤ 281474976710656 := leB_le h
  have hm : ∀ w_, Below w.heap.size w w_ → Mem w [] w_ [] := fun w_ hb => ⟨Fr.of_below hb, [], .nil, List.nodup_nil, by simp⟩
  cases hp : Lib.parseIntB 64 x0.data.toList with
  | ok v =>
    refine (Tryd.strconv_ParseInt_10_at64_ok x0 (by omega) v hp w).mono fun e w_ ⟨he, hw⟩ => ⟨_, he, _, .inl ⟨rfl, rfl⟩, rfl, hm _ ?_⟩
    rcases hw with rfl | ⟨t, rfl⟩
    · exact Below.refl _ _
    · exact Lib.bytesWorld_below _ _ _
  | range =>
    obtain ⟨te, pe, hv⟩ := htab.rng
    exact (Tryd.strconv_ParseInt_10_at64_range x0 h0 hp _ w hv (.inr ⟨te, pe, rfl⟩)).mono fun e w_ ⟨N, he, _, _, hw⟩ => ⟨_, he, _, .inr ⟨rfl, _, _, rfl⟩, rfl, hm _ hw⟩
  | _ =>
    obtain ⟨te, pe, hv⟩ := htab.syn
    exact (Tryd.strconv_ParseInt_10_at64_syntax x0 h0 hp _ w hv (.inr ⟨te, pe, rfl⟩)).mono fun e w_ ⟨N, he, _, _, hw⟩ => ⟨_, he, _, .inr ⟨rfl, _, _, rfl⟩, rfl, hm _ hw⟩

def strconv_FormatInt.f (k : Nat) (x0 : Int) (x1 : Int) : Option ByteArray := (chk ((decide (-9223372036854775808 ≤ x0) && decide (x0 ≤ 9223372036854775807)) && (x1 == 10)) (some (⟨(Lib.itoa x0).toArray⟩ : ByteArray)))
theorem strconv_FormatInt.calls {k : Nat} {x0 x1 : Int} {w : World} (htab : TabP w) {r : ByteArray} (H : strconv_FormatInt.f k x0 x1 = some r) :
    Calls Tryd.prog 104 ([.int .i64 x0, .int .i64 x1] : List Value).toArray w (fun e w_ => ∃ v, e = .returned v ∧ v = (.string r) ∧ Mem w [] w_ []) := by
  obtain ⟨h, H⟩ := chk_some H
  have hR := Option.some.inj H
  subst hR
  simp only [Bool.and_eq_true, decide_eq_true_eq, beq_iff_eq] at h
  obtain ⟨⟨h0, h1⟩, rfl⟩ := h
  exact (Tryd.strconv_FormatInt_10 x0 h0 h1 w htab.tab).mono fun e w_ ⟨he, k, os, hw⟩ => ⟨_, he, rfl, hw ▸ mem_grow w k os⟩

def impl_dec.f (k : Nat) (x0 : Int) : Option ByteArray := ((strconv_FormatInt.f k x0 10).bind fun t821 => some t821)
theorem impl_dec.calls {k : Nat} {x0 : Int}  {w : World} (htab : TabP w)  {r : ByteArray} (H : impl_dec.f k x0 = some r) :
    Calls Tryd.prog 83 ([.int .i64 x0] : List Value).toArray w (fun e w_ => ∃ v, e = .returned v ∧ v = (.string r) ∧ Mem w [] w_ []) := by
  have HM := Mem.start w
  refine calls_run (N := 5) Tryd.func83 rfl rfl rfl rfl ?_
  unfold impl_dec.f at H
  refine run_seq ?_
  refine run_region rfl ?_
  refine ops_ex rfl (guard_none rfl) rfl rfl (ex_assign rfl rfl) ?_
  refine ops_nil ?_
  refine at_then ?_
  refine run_seq ?_
  obtain ⟨t821, h822, H⟩ := bind_some H
  refine run_region rfl ?_
  refine ops_ex rfl (guard_none rfl) rfl rfl (ex_move rfl rfl) ?_
  refine ops_does rfl (guard_none rfl) rfl rfl (does_callk rfl callok104 rfl (strconv_FormatInt.calls (x0 := x0) (x1 := 10) (HM.tabP htab) h822)) ?_
  rintro _ w823 ⟨rfl, hn⟩
  replace HM : Mem w [] w823 [] := HM.call hn
  refine ops_ex rfl (guard_none rfl) rfl rfl (ex_assign rfl rfl) ?_
  refine ops_nil ?_
  refine at_then ?_
  refine run_ret ?_
  have hR := Option.some.inj H
  subst hR
  exact at_ret1 rfl rfl ⟨_, rfl, rfl, HM⟩

def impl_number.f (k : Nat) (x0 : ByteArray) : Option Int := ((strconv_ParseInt.f k x0 10 64).bind fun t827 => ((bif (!((!t827.2) || (decide (10 < (x0.size : Int))))) then impl_dec.f k t827.1 else some default).bind fun t832 => (bif (((!t827.2) || (decide (10 < (x0.size : Int)))) || (!sEq t832 x0)) then some (-1) else some t827.1)))
theorem impl_number.calls {k : Nat} {x0 : ByteArray}  {w : World} (htab : TabP w)  {r : Int} (H : impl_number.f k x0 = some r) :
    Calls Tryd.prog 92 ([.string x0] : List Value).toArray w (fun e w_ => ∃ v, e = .returned v ∧ v = (.int .i64 r) ∧ Mem w [] w_ []) := by
  have HM := Mem.start w
  refine calls_run (N := 24) Tryd.func92 rfl rfl rfl rfl ?_
  unfold impl_number.f at H
  refine run_seq ?_
  refine run_region rfl ?_
  refine ops_ex rfl (guard_none rfl) rfl rfl (ex_assign rfl rfl) ?_
  refine ops_nil ?_
  refine at_then ?_
  refine run_seq ?_
  obtain ⟨t827, h828, H⟩ := bind_some H
  refine run_region rfl ?_
  refine ops_ex rfl (guard_none rfl) rfl rfl (ex_move rfl rfl) ?_
  refine ops_does rfl (guard_none rfl) rfl rfl (does_callk rfl callok110 rfl (strconv_ParseInt.calls (x0 := x0) (x1 := 10) (x2 := 64) (HM.tabP htab) h828)) ?_
  rintro _ w831 ⟨u829, hE830, rfl, hn⟩
  replace HM : Mem w [] w831 [] := HM.call hn
  refine ops_ex rfl (guard_none rfl) rfl rfl (ex_move rfl rfl) ?_
  refine ops_ex rfl (guard_none rfl) rfl rfl (ex_extract rfl rfl rfl) ?_
  refine ops_ex rfl (guard_none rfl) rfl rfl (ex_extract rfl rfl rfl) ?_
  refine ops_ex rfl (guard_none rfl) rfl rfl (ex_assign rfl rfl) ?_
  refine ops_ex rfl (guard_none rfl) rfl rfl (ex_assign rfl rfl) ?_
  refine ops_nil ?_
  refine at_then ?_
  refine run_seq ?_
  refine run_seq ?_
  obtain ⟨t832, h833, H⟩ := bind_some H
  refine run_meet (fun ρ_ w_ => ρ_ = [(3, .int .i64 t827.1), (22, .bool (((!t827.2) || (decide (10 < (x0.size : Int)))) || (!sEq t832 x0)))] ∧ Mem w [] w_ []) ?_ ?_
  · skip
    refine run_region rfl ?_
    refine ops_ex rfl (guard_none rfl) rfl rfl (ex_move rfl rfl) ?_
    refine ops_ex rfl (guard_none rfl) rfl rfl (ex_errneq rfl rfl rfl Tryd.underlying147 hE830) ?_
    refine ops_ex rfl (guard_none rfl) rfl rfl (ex_move rfl rfl) ?_
    refine bool_cases (!t827.2) (fun hg834 => ?_) (fun hg834 => ?_)
    · skip
      refine ops_off rfl (guard_off rfl rfl rfl hg834) rfl rfl ?_
      refine ops_off rfl (guard_off rfl rfl rfl hg834) rfl rfl ?_
      refine ops_off rfl (guard_off rfl rfl rfl hg834) rfl rfl ?_
      have hg835 : ((!t827.2) || (decide (10 < (x0.size : Int)))) = true := by simp only [hg834, Bool.and_true, Bool.true_and, Bool.and_false, Bool.false_and, Bool.or_true, Bool.true_or, Bool.or_false, Bool.false_or, Bool.not_true, Bool.not_false, Bool.not_not]
      refine ops_ex (v := .bool ((!t827.2) || (decide (10 < (x0.size : Int))))) rfl (guard_none rfl) rfl rfl (ex_por_t rfl rfl hg834) ?_
      refine ops_ex rfl (guard_none rfl) rfl rfl (ex_move rfl rfl) ?_
      refine ops_off rfl (guard_off rfl rfl rfl hg835) rfl rfl ?_
      refine ops_off rfl (guard_off rfl rfl rfl hg835) rfl rfl ?_
      refine ops_off rfl (guard_off rfl rfl rfl hg835) rfl rfl ?_
      refine ops_off rfl (guard_off rfl rfl rfl hg835) rfl rfl ?_
      have hg836 : (((!t827.2) || (decide (10 < (x0.size : Int)))) || (!sEq t832 x0)) = true := by simp only [hg835, Bool.and_true, Bool.true_and, Bool.and_false, Bool.false_and, Bool.or_true, Bool.true_or, Bool.or_false, Bool.false_or, Bool.not_true, Bool.not_false, Bool.not_not]
      refine ops_ex (v := .bool (((!t827.2) || (decide (10 < (x0.size : Int)))) || (!sEq t832 x0))) rfl (guard_none rfl) rfl rfl (ex_por_t rfl rfl hg835) ?_
      refine ops_nil ?_
      exact at_meet [(3, .int .i64 t827.1), (22, .bool (((!t827.2) || (decide (10 < (x0.size : Int)))) || (!sEq t832 x0)))] ⟨rfl, HM⟩ (Sub.cons rfl (Sub.cons rfl Sub.nil))
    · skip
      refine ops_ex rfl (guard_on rfl rfl rfl hg834) rfl rfl (ex_move rfl rfl) ?_
      refine ops_ex rfl (guard_on rfl rfl rfl hg834) rfl rfl (ex_strlen rfl rfl Tryd.underlying9) ?_
      refine ops_ex rfl (guard_on rfl rfl rfl hg834) rfl rfl (ex_gtr rfl rfl rfl) ?_
      refine ops_ex (v := .bool ((!t827.2) || (decide (10 < (x0.size : Int))))) rfl (guard_none rfl) rfl rfl (ex_por_f rfl rfl hg834 rfl) ?_
      refine ops_ex rfl (guard_none rfl) rfl rfl (ex_move rfl rfl) ?_
      refine bool_cases ((!t827.2) || (decide (10 < (x0.size : Int)))) (fun hg837 => ?_) (fun hg837 => ?_)
      · skip
        refine ops_off rfl (guard_off rfl rfl rfl hg837) rfl rfl ?_
        refine ops_off rfl (guard_off rfl rfl rfl hg837) rfl rfl ?_
        refine ops_off rfl (guard_off rfl rfl rfl hg837) rfl rfl ?_
        refine ops_off rfl (guard_off rfl rfl rfl hg837) rfl rfl ?_
        have hg838 : (((!t827.2) || (decide (10 < (x0.size : Int)))) || (!sEq t832 x0)) = true := by simp only [hg837, Bool.and_true, Bool.true_and, Bool.and_false, Bool.false_and, Bool.or_true, Bool.true_or, Bool.or_false, Bool.false_or, Bool.not_true, Bool.not_false, Bool.not_not]
        refine ops_ex (v := .bool (((!t827.2) || (decide (10 < (x0.size : Int)))) || (!sEq t832 x0))) rfl (guard_none rfl) rfl rfl (ex_por_t rfl rfl hg837) ?_
        refine ops_nil ?_
        exact at_meet [(3, .int .i64 t827.1), (22, .bool (((!t827.2) || (decide (10 < (x0.size : Int)))) || (!sEq t832 x0)))] ⟨rfl, HM⟩ (Sub.cons rfl (Sub.cons rfl Sub.nil))
      · skip
        refine ops_ex rfl (guard_on rfl rfl rfl hg837) rfl rfl (ex_move rfl rfl) ?_
        refine ops_does rfl (guard_on rfl rfl rfl hg837) rfl rfl (does_callk rfl callok83 rfl (impl_dec.calls (x0 := t827.1) (HM.tabP htab) (cond_t (not_mk hg837) h833))) ?_
        rintro _ w839 ⟨rfl, hn⟩
        replace HM : Mem w [] w839 [] := HM.call hn
        refine ops_ex rfl (guard_on rfl rfl rfl hg837) rfl rfl (ex_move rfl rfl) ?_
        refine ops_ex rfl (guard_on rfl rfl rfl hg837) rfl rfl (ex_sneq rfl rfl rfl) ?_
        refine ops_ex (v := .bool (((!t827.2) || (decide (10 < (x0.size : Int)))) || (!sEq t832 x0))) rfl (guard_none rfl) rfl rfl (ex_por_f rfl rfl hg837 rfl) ?_
        refine ops_nil ?_
        exact at_meet [(3, .int .i64 t827.1), (22, .bool (((!t827.2) || (decide (10 < (x0.size : Int)))) || (!sEq t832 x0)))] ⟨rfl, HM⟩ (Sub.cons rfl (Sub.cons rfl Sub.nil))
  · rintro _ w840 ⟨rfl, HM⟩
    refine at_then ?_
    refine run_cond (b := (((!t827.2) || (decide (10 < (x0.size : Int)))) || (!sEq t832 x0))) rfl (fun hb841 => ?_) (fun hb841 => ?_)
    · replace H := cond_t hb841 H
      refine run_seq ?_
      refine run_region rfl ?_
      refine ops_ex rfl (guard_none rfl) rfl rfl (ex_assign rfl rfl) ?_
      refine ops_nil ?_
      refine at_then ?_
      refine run_ret ?_
      refine at_then_ret ?_
      have hR := Option.some.inj H
      subst hR
      exact at_ret1 rfl rfl ⟨_, rfl, rfl, HM⟩
    · replace H := cond_f hb841 H
      refine run_skip ?_
      refine at_then ?_
      refine run_seq ?_
      refine run_region rfl ?_
      refine ops_ex rfl (guard_none rfl) rfl rfl (ex_move rfl rfl) ?_
      refine ops_ex rfl (guard_none rfl) rfl rfl (ex_assign rfl rfl) ?_
      refine ops_nil ?_
      refine at_then ?_
      refine run_ret ?_
      have hR := Option.some.inj H
      subst hR
      exact at_ret1 rfl rfl ⟨_, rfl, rfl, HM⟩

def impl_numbers.l0 (t947 : List ByteArray) : Nat → (List Int) → Int → Option ((List Int))
  | 0, _, _ => none
  | k + 1, a963, a965 => (bif (decide (a965 < (t947.length : Int))) then (chk (idxOk a965 t947.length) ((impl_number.f k (gt t947 a965)).bind fun t980 => (chk (leB ((a963.length + ([t980] : List Int).length) * 8) 140737488355328) (impl_numbers.l0 t947 k (a963 ++ ([t980] : List Int)) (wrap64 (a965 + 1)))))) else some a963)
theorem impl_numbers.l0_z (t947 : List ByteArray) (a963 : List Int) (a965 : Int) : impl_numbers.l0 t947 0 a963 a965 = none := rfl
theorem impl_numbers.l0_s (t947 : List ByteArray) (k : Nat) (a963 : List Int) (a965 : Int) : impl_numbers.l0 t947 (k + 1) a963 a965 = (bif (decide (a965 < (t947.length : Int))) then (chk (idxOk a965 t947.length) ((impl_number.f k (gt t947 a965)).bind fun t980 => (chk (leB ((a963.length + ([t980] : List Int).length) * 8) 140737488355328) (impl_numbers.l0 t947 k (a963 ++ ([t980] : List Int)) (wrap64 (a965 + 1)))))) else some a963) := rfl
def impl_numbers.f (k : Nat) (x0 : ByteArray) (x1 : ByteArray) : Option ((List Int)) := (((strings_Split.f k x0 x1).bind fun t947 => impl_numbers.l0 t947 k ([] : List Int) 0).bind (fun a943 => some a943))
theorem impl_numbers.calls {k : Nat} {x0 : ByteArray} {x1 : ByteArray}  {w : World} (htab : TabP w)  {r : (List Int)} (H : impl_numbers.f k x0 x1 = some r) :
    Calls Tryd.prog 93 ([.string x0, .string x1] : List Value).toArray w (fun e w_ => ∃ v, e = .returned v ∧ ∃ u0 : Value, v = u0 ∧ Mem w [] w_ [own kInt 2 u0 r]) := by
  have HM := Mem.start w
  refine calls_run (N := 24) Tryd.func93 rfl rfl rfl rfl ?_
  unfold impl_numbers.f at H
  refine run_seq ?_
  refine run_region rfl ?_
  refine ops_ex rfl (guard_none rfl) rfl rfl (ex_assign rfl rfl) ?_
  refine ops_nil ?_
  refine at_then ?_
  refine run_seq ?_
  refine run_region rfl ?_
  refine ops_does rfl (guard_none rfl) rfl rfl (does_lit (e := 2) (cs := []) (xs := ([] : List Int)) kInt rfl rfl (fun _ => by kernel_rfl) rfl rfl (fun _ _ h => by have h' : _ = [] := h; subst h'; exact .nil) HM.emp) ?_
  rintro v900 w903 HM
  refine ops_ex rfl (guard_none rfl) rfl rfl (ex_assign rfl rfl) ?_
  refine ops_nil ?_
  refine at_then ?_
  obtain ⟨o945, ho946, H⟩ := bind_some H
  refine run_mid (fun ρ_ w_ => ∃ v942 : Value, ∃ a943 : List Int, a943 = o945 ∧ ρ_ = [(5, v942)] ∧ Mem w [] w_ [own kInt 2 v942 a943]) ?_ ?_
  · clear H
    refine run_seq ?_
    obtain ⟨t947, h948, ho946⟩ := bind_some ho946
    refine run_region rfl ?_
    refine ops_ex rfl (guard_none rfl) rfl rfl (ex_move rfl rfl) ?_
    refine ops_ex rfl (guard_none rfl) rfl rfl (ex_move rfl rfl) ?_
    refine ops_does rfl (guard_none rfl) rfl rfl (does_callk rfl callok91 rfl (strings_Split.calls (x0 := x0) (x1 := x1) (HM.tabP htab) h948)) ?_
    rintro u949 w951 ⟨_, rfl, hn⟩
    replace HM : Mem w [] w951 [own kStr 9 u949 t947, own kInt 2 v900 ([] : List Int)] := HM.call hn
    refine ops_ex rfl (guard_none rfl) rfl rfl (ex_len (d := kStr) (xs := t947) rfl rfl Tryd.underlying107 (HM.own_rd 0 rfl)) ?_
    refine ops_ex rfl (guard_none rfl) rfl rfl (ex_move rfl rfl) ?_
    refine ops_nil ?_
    refine at_then ?_
    refine run_block ?_
    replace HM := HM.front 1 rfl rfl
    refine run_loop (fun k_ ρ_ w_ => ∃ v962 : Value, ∃ a963 : List Int, ∃ a965 : Int, impl_numbers.l0 t947 k_ a963 a965 = some o945 ∧ ρ_ = [(5, v962), (11, u949), (12, .int .i64 (t947.length : Int)), (13, .int .i64 a965)] ∧ Mem w [] w_ [own kInt 2 v962 a963, own kStr 9 u949 t947]) k (ρ1 := [(5, v900), (11, u949), (12, .int .i64 (t947.length : Int)), (13, .int .i64 0)]) ⟨_, _, _, ho946, rfl, HM⟩ (Sub.cons rfl (Sub.cons rfl (Sub.cons rfl (Sub.cons rfl Sub.nil)))) ?_
    clear HM ho946
    rintro k976 _ w977 ⟨v962, a963, a965, ho946, rfl, HM⟩
    obtain _ | k976 := k976
    · exact nomatch ((impl_numbers.l0_z t947 a963 a965).symm.trans ho946)
    replace ho946 := (impl_numbers.l0_s t947 k976 a963 a965).symm.trans ho946
    refine run_seq ?_
    refine run_region rfl ?_
    refine ops_ex rfl (guard_none rfl) rfl rfl (ex_lss rfl rfl rfl) ?_
    refine ops_nil ?_
    refine at_then ?_
    refine run_seq ?_
    refine run_cond (b := (decide (a965 < (t947.length : Int)))) rfl (fun hb978 => ?_) (fun hb978 => ?_)
    · replace ho946 := cond_t hb978 ho946
      refine run_skip ?_
      refine at_then ?_
      refine run_seq ?_
      refine run_block ?_
      refine run_seq ?_
      obtain ⟨e979, ho946⟩ := chk_some ho946
      refine run_region rfl ?_
      refine ops_ex rfl (guard_none rfl) rfl rfl (ex_indexAddr (d := kStr) rfl rfl rfl Tryd.underlying107 tsz9 (HM.own_rd 1 rfl) (idx_lo e979) (idx_hi e979)) ?_
      refine ops_ex rfl (guard_none rfl) rfl rfl (ex_load1 rfl rfl Tryd.underlying9 rfl ((rd_plain (HM.own_rd 1 rfl) e979) 0 _ rfl)) ?_
      refine ops_ex rfl (guard_none rfl) rfl rfl (ex_assign rfl rfl) ?_
      refine ops_nil ?_
      refine at_then ?_
      obtain ⟨t980, h981, ho946⟩ := bind_some ho946
      obtain ⟨e985, ho946⟩ := chk_some ho946
      refine run_region rfl ?_
      refine ops_ex rfl (guard_none rfl) rfl rfl (ex_move rfl rfl) ?_
      refine ops_ex rfl (guard_none rfl) rfl rfl (ex_move rfl rfl) ?_
      refine ops_does rfl (guard_none rfl) rfl rfl (does_callk rfl callok92 rfl (impl_number.calls (x0 := (gt t947 a965)) (HM.tabP htab) h981)) ?_
      rintro _ w988 ⟨rfl, hn⟩
      replace HM : Mem w [] w988 [own kInt 2 v962 a963, own kStr 9 u949 t947] := HM.call hn
      refine ops_does rfl (guard_none rfl) rfl rfl (does_lit (e := 2) (cs := [.int .i64 t980]) (xs := ([t980] : List Int)) kInt rfl rfl (fun _ => by kernel_rfl) rfl rfl (fun _ _ h => by have h' : _ = [] := h; subst h'; exact (Elems.cons (d := kInt) (f := []) ⟨rfl, rfl⟩ .nil)) HM.emp) ?_
      rintro v982 w989 HM
      replace HM := HM.front 1 rfl rfl
      refine ops_does rfl (guard_none rfl) rfl rfl (does_appendR kInt flat_plain rfl rfl rfl Tryd.underlying38 tsz2 rfl tby2 tz2 rfl rfl (leB_le e985) (HM.own_rd 1 rfl) HM) ?_
      rintro v986 w990 HM
      refine ops_ex rfl (guard_none rfl) rfl rfl (ex_assign rfl rfl) ?_
      refine ops_nil ?_
      refine at_block ?_
      refine at_then ?_
      refine run_region rfl ?_
      refine ops_ex rfl (guard_none rfl) rfl rfl (ex_add rfl rfl rfl) ?_
      refine ops_ex rfl (guard_none rfl) rfl rfl (ex_move rfl rfl) ?_
      refine ops_nil ?_
      replace HM := (HM.front 1 rfl rfl).drop
      exact at_again k976 (ρ1 := [(5, v986), (11, u949), (12, .int .i64 (t947.length : Int)), (13, .int .i64 (wrap64 (a965 + 1)))]) (Nat.lt_succ_self _) ⟨_, _, _, ho946, rfl, HM⟩ (Sub.cons rfl (Sub.cons rfl (Sub.cons rfl (Sub.cons rfl Sub.nil))))
    · replace ho946 := cond_f hb978 ho946
      refine run_exit ?_
      refine at_then_exit ?_
      refine at_then_exit ?_
      refine at_block_exit ?_
      replace HM := (HM.front 1 rfl rfl).drop
      exact at_mid (ρ' := [(5, v962)]) ⟨_, _, (Option.some.inj ho946), rfl, HM⟩ (Sub.cons rfl Sub.nil)
  · rintro _ w991 ⟨v942, a943, rfl, rfl, HM⟩
    refine run_seq ?_
    refine run_region rfl ?_
    refine ops_ex rfl (guard_none rfl) rfl rfl (ex_move rfl rfl) ?_
    refine ops_ex rfl (guard_none rfl) rfl rfl (ex_assign rfl rfl) ?_
    refine ops_nil ?_
    refine at_then ?_
    refine run_ret ?_
    have hR := Option.some.inj H
    subst hR
    exact at_ret1 rfl rfl ⟨_, rfl, _, rfl, HM⟩
end Go.Proofs.YtiiimifniobfhaaDoor.Zk
