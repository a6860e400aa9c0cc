/- What functions of the program compute, each as a plain function, and that they do. Conditions: as each theorem states them. -/
import Derived.Test.YtcpacdbdehphkaaGreatDoorParseTxZkF0
namespace Go.Proofs.YtcpacdbdehphkaaGreatDoor.Zk
open Go Go.RowKit Go.IntWalk Go.Proofs
set_option linter.unusedVariables false
set_option linter.unusedSimpArgs false
set_option maxRecDepth 100000
set_option maxHeartbeats 4000000
def spec_l2Parse.l0 (t920 : (List ByteArray)) : Nat → Bool → (List Int) → Int → Option (Bool × (List Int))
  | 0, _, _, _ => none
  | k + 1, a976, a978, a980 => (bif (decide (a980 < (t920.length : Int))) then (chk (idxOk a980 t920.length) ((spec_l2Number.f k (gt t920 a980) 3).bind fun t996 => (chk (leB ((a978.length + ([t996.1] : List Int).length) * 8) 140737488355328) (spec_l2Parse.l0 t920 k (a976 && t996.2) (a978 ++ ([t996.1] : List Int)) (wrap64 (a980 + 1)))))) else some (a976, a978))
theorem spec_l2Parse.l0_z (t920 : (List ByteArray)) (a976 : Bool) (a978 : List Int) (a980 : Int) : spec_l2Parse.l0 t920 0 a976 a978 a980 = none := rfl
theorem spec_l2Parse.l0_s (t920 : (List ByteArray)) (k : Nat) (a976 : Bool) (a978 : List Int) (a980 : Int) : spec_l2Parse.l0 t920 (k + 1) a976 a978 a980 = (bif (decide (a980 < (t920.length : Int))) then (chk (idxOk a980 t920.length) ((spec_l2Number.f k (gt t920 a980) 3).bind fun t996 => (chk (leB ((a978.length + ([t996.1] : List Int).length) * 8) 140737488355328) (spec_l2Parse.l0 t920 k (a976 && t996.2) (a978 ++ ([t996.1] : List Int)) (wrap64 (a980 + 1)))))) else some (a976, a978)) := rfl
def spec_l2Parse.f (k : Nat) (x0 : ByteArray) : Option (Rule × Bool) := ((spec_l2Cut.f k x0 32).bind fun t894 => (chk (!(!(((t894.length : Int) != 3) && ((t894.length : Int) != 5))) || (idxOk (1 : Int) t894.length)) (bif ((((t894.length : Int) != 3) && ((t894.length : Int) != 5)) || (!sEq (gt t894 (1 : Int)) (⟨#[111, 102]⟩ : ByteArray))) then some ((⟨([] : List Int), 0, 0⟩ : Rule), false) else (chk (idxOk (0 : Int) t894.length) ((spec_l2Number.f k (gt t894 (0 : Int)) 1).bind fun t911 => (chk (idxOk (2 : Int) t894.length) ((spec_l2Cut.f k (gt t894 (2 : Int)) 44).bind fun t920 => ((spec_l2Parse.l0 t920 k t911.2 ([] : List Int) 0).bind (cur2 (fun a960 a962 => ((bif ((t894.length : Int) == 5) then (chk (idxOk (4 : Int) t894.length) ((spec_l2Number.f k (gt t894 (4 : Int)) 3).bind fun t1028 => (chk (!(a960 && t1028.2) || (idxOk (3 : Int) t894.length)) (some ((((a960 && t1028.2) && (sEq (gt t894 (3 : Int)) (⟨#[97, 102, 116, 101, 114]⟩ : ByteArray))) && (decide (0 < t1028.1))), t1028.1))))) else some (a960, 0)).bind (cur2 (fun a1022 a1023 => ((bif a1022 then spec_l2Fault.f k (⟨a962, t911.1, a1023⟩ : Rule) else some default).bind fun t1044 => some ((⟨a962, t911.1, a1023⟩ : Rule), (a1022 && (t1044 == 0)))))))))))))))))
theorem spec_l2Parse.calls {k : Nat} {x0 : ByteArray}  {w : World}  {r : Rule × Bool} (H : spec_l2Parse.f k x0 = some r) :
    Calls Tryz.prog 17 ([.string x0] : List Value).toArray w (fun e w_ => ∃ v, e = .returned v ∧ ∃ u0 : Value, v = (.tuple #[.agg #[u0, .int .i64 r.1.fNeed, .int .i64 r.1.fAfter], .bool r.2]) ∧ Mem w [] w_ [own kInt 2 u0 r.1.fKeys]) := by
  have HM := Mem.start w
  refine calls_run (N := 100) Tryz.func17 rfl rfl rfl rfl ?_
  unfold spec_l2Parse.f at H
  refine run_seq ?_
  refine run_region rfl ?_
  refine ops_does rfl (guard_none rfl) rfl rfl (does_alloc (cs := [.slice none 0 0, .int .i64 0, .int .i64 0]) rfl tz44 rfl HM) ?_
  rintro _ w893 ⟨b890, rfl, HM⟩
  refine ops_ex rfl (guard_none rfl) rfl rfl (ex_assign rfl rfl) ?_
  refine ops_nil ?_
  refine at_then ?_
  refine run_seq ?_
  obtain ⟨t894, h895, H⟩ := bind_some H
  refine run_region rfl ?_
  refine ops_ex rfl (guard_none rfl) rfl rfl (ex_move rfl rfl) ?_
  refine ops_does rfl (guard_none rfl) rfl rfl (does_callk rfl callok14 rfl (spec_l2Cut.calls (x0 := x0) (x1 := 32) h895)) ?_
  rintro u896 w898 ⟨_, rfl, hn⟩
  replace HM : Mem w [] w898 [own kStr 9 u896 t894, box b890 44 [.slice none 0 0, .int .i64 0, .int .i64 0]] := HM.call hn
  refine ops_ex rfl (guard_none rfl) rfl rfl (ex_assign rfl rfl) ?_
  refine ops_nil ?_
  refine at_then ?_
  refine run_seq ?_
  refine run_seq ?_
  obtain ⟨e901, H⟩ := chk_some H
  refine run_meet (fun ρ_ w_ => ρ_ = [(2, .pointer (some ⟨b890, 0, none⟩)), (4, u896), (29, .bool ((((t894.length : Int) != 3) && ((t894.length : Int) != 5)) || (!sEq (gt t894 (1 : Int)) (⟨#[111, 102]⟩ : ByteArray))))] ∧ Mem w [] w_ [box b890 44 [.slice none 0 0, .int .i64 0, .int .i64 0], own kStr 9 u896 t894]) ?_ ?_
  · skip
    refine run_region rfl ?_
    refine ops_ex rfl (guard_none rfl) rfl rfl (ex_move rfl rfl) ?_
    refine ops_ex rfl (guard_none rfl) rfl rfl (ex_len (d := kStr) (xs := t894) rfl rfl Tryz.underlying36 (HM.own_rd 0 rfl)) ?_
    refine ops_ex rfl (guard_none rfl) rfl rfl (ex_neq rfl rfl rfl) ?_
    refine ops_ex rfl (guard_none rfl) rfl rfl (ex_move rfl rfl) ?_
    refine bool_cases ((t894.length : Int) != 3) (fun hg902 => ?_) (fun hg902 => ?_)
    · skip
      refine ops_ex rfl (guard_on rfl rfl rfl hg902) rfl rfl (ex_move rfl rfl) ?_
      refine ops_ex rfl (guard_on rfl rfl rfl hg902) rfl rfl (ex_len (d := kStr) (xs := t894) rfl rfl Tryz.underlying36 (HM.own_rd 0 rfl)) ?_
      refine ops_ex rfl (guard_on rfl rfl rfl hg902) rfl rfl (ex_neq rfl rfl rfl) ?_
      refine ops_ex (v := .bool (((t894.length : Int) != 3) && ((t894.length : Int) != 5))) rfl (guard_none rfl) rfl rfl (ex_pand_t rfl rfl hg902 rfl) ?_
      refine ops_ex rfl (guard_none rfl) rfl rfl (ex_move rfl rfl) ?_
      refine bool_cases (((t894.length : Int) != 3) && ((t894.length : Int) != 5)) (fun hg903 => ?_) (fun hg903 => ?_)
      · skip
        refine ops_off rfl (guard_off rfl rfl rfl hg903) rfl rfl ?_
        refine ops_off rfl (guard_off rfl rfl rfl hg903) rfl rfl ?_
        refine ops_off rfl (guard_off rfl rfl rfl hg903) rfl rfl ?_
        refine ops_off rfl (guard_off rfl rfl rfl hg903) rfl rfl ?_
        have hg904 : ((((t894.length : Int) != 3) && ((t894.length : Int) != 5)) || (!sEq (gt t894 (1 : Int)) (⟨#[111, 102]⟩ : ByteArray))) = true := by simp only [hg903, Bool.and_true, Bool.true_and, Bool.and_false, Bool.false_and, Bool.or_true, Bool.true_or, Bool.or_false, Bool.false_or, Bool.not_true, Bool.not_false, Bool.not_not]
        refine ops_ex (v := .bool ((((t894.length : Int) != 3) && ((t894.length : Int) != 5)) || (!sEq (gt t894 (1 : Int)) (⟨#[111, 102]⟩ : ByteArray)))) rfl (guard_none rfl) rfl rfl (ex_por_t rfl rfl hg903) ?_
        refine ops_nil ?_
        replace HM := HM.front 1 rfl rfl
        exact at_meet [(2, .pointer (some ⟨b890, 0, none⟩)), (4, u896), (29, .bool ((((t894.length : Int) != 3) && ((t894.length : Int) != 5)) || (!sEq (gt t894 (1 : Int)) (⟨#[111, 102]⟩ : ByteArray))))] ⟨rfl, HM⟩ (Sub.cons rfl (Sub.cons rfl (Sub.cons rfl Sub.nil)))
      · skip
        refine ops_ex rfl (guard_on rfl rfl rfl hg903) rfl rfl (ex_move rfl rfl) ?_
        refine ops_ex rfl (guard_on rfl rfl rfl hg903) rfl rfl (ex_indexAddr (d := kStr) rfl rfl rfl Tryz.underlying36 tsz9 (HM.own_rd 0 rfl) (idx_lo (or_t e901 (not_mk hg903))) (idx_hi (or_t e901 (not_mk hg903)))) ?_
        refine ops_ex rfl (guard_on rfl rfl rfl hg903) rfl rfl (ex_load1 rfl rfl Tryz.underlying9 rfl ((rd_plain (HM.own_rd 0 rfl) (or_t e901 (not_mk hg903))) 0 _ rfl)) ?_
        refine ops_ex rfl (guard_on rfl rfl rfl hg903) rfl rfl (ex_sneq rfl rfl rfl) ?_
        refine ops_ex (v := .bool ((((t894.length : Int) != 3) && ((t894.length : Int) != 5)) || (!sEq (gt t894 (1 : Int)) (⟨#[111, 102]⟩ : ByteArray)))) rfl (guard_none rfl) rfl rfl (ex_por_f rfl rfl hg903 rfl) ?_
        refine ops_nil ?_
        replace HM := HM.front 1 rfl rfl
        exact at_meet [(2, .pointer (some ⟨b890, 0, none⟩)), (4, u896), (29, .bool ((((t894.length : Int) != 3) && ((t894.length : Int) != 5)) || (!sEq (gt t894 (1 : Int)) (⟨#[111, 102]⟩ : ByteArray))))] ⟨rfl, HM⟩ (Sub.cons rfl (Sub.cons rfl (Sub.cons rfl Sub.nil)))
    · skip
      refine ops_off rfl (guard_off rfl rfl rfl hg902) rfl rfl ?_
      refine ops_off rfl (guard_off rfl rfl rfl hg902) rfl rfl ?_
      refine ops_off rfl (guard_off rfl rfl rfl hg902) rfl rfl ?_
      have hg905 : (((t894.length : Int) != 3) && ((t894.length : Int) != 5)) = false := by simp only [hg902, Bool.and_true, Bool.true_and, Bool.and_false, Bool.false_and, Bool.or_true, Bool.true_or, Bool.or_false, Bool.false_or, Bool.not_true, Bool.not_false, Bool.not_not]
      refine ops_ex (v := .bool (((t894.length : Int) != 3) && ((t894.length : Int) != 5))) rfl (guard_none rfl) rfl rfl (ex_pand_f rfl rfl hg902) ?_
      refine ops_ex rfl (guard_none rfl) rfl rfl (ex_move rfl rfl) ?_
      refine ops_ex rfl (guard_on rfl rfl rfl hg905) rfl rfl (ex_move rfl rfl) ?_
      refine ops_ex rfl (guard_on rfl rfl rfl hg905) rfl rfl (ex_indexAddr (d := kStr) rfl rfl rfl Tryz.underlying36 tsz9 (HM.own_rd 0 rfl) (idx_lo (or_t e901 (not_mk hg905))) (idx_hi (or_t e901 (not_mk hg905)))) ?_
      refine ops_ex rfl (guard_on rfl rfl rfl hg905) rfl rfl (ex_load1 rfl rfl Tryz.underlying9 rfl ((rd_plain (HM.own_rd 0 rfl) (or_t e901 (not_mk hg905))) 0 _ rfl)) ?_
      refine ops_ex rfl (guard_on rfl rfl rfl hg905) rfl rfl (ex_sneq rfl rfl rfl) ?_
      refine ops_ex (v := .bool ((((t894.length : Int) != 3) && ((t894.length : Int) != 5)) || (!sEq (gt t894 (1 : Int)) (⟨#[111, 102]⟩ : ByteArray)))) rfl (guard_none rfl) rfl rfl (ex_por_f rfl rfl hg905 rfl) ?_
      refine ops_nil ?_
      replace HM := HM.front 1 rfl rfl
      exact at_meet [(2, .pointer (some ⟨b890, 0, none⟩)), (4, u896), (29, .bool ((((t894.length : Int) != 3) && ((t894.length : Int) != 5)) || (!sEq (gt t894 (1 : Int)) (⟨#[111, 102]⟩ : ByteArray))))] ⟨rfl, HM⟩ (Sub.cons rfl (Sub.cons rfl (Sub.cons rfl Sub.nil)))
  · rintro _ w906 ⟨rfl, HM⟩
    refine at_then ?_
    refine run_cond (b := ((((t894.length : Int) != 3) && ((t894.length : Int) != 5)) || (!sEq (gt t894 (1 : Int)) (⟨#[111, 102]⟩ : ByteArray)))) rfl (fun hb907 => ?_) (fun hb907 => ?_)
    · replace H := cond_t hb907 H
      refine run_seq ?_
      refine run_region rfl ?_
      refine ops_ex rfl (guard_none rfl) rfl rfl (ex_build (cells := #[(.slice none 0 0), (.int .i64 0), (.int .i64 0)]) rfl rfl (by kernel_rfl)) ?_
      refine ops_doesS rfl (guard_none rfl) rfl (does_store (vs := [.slice none 0 0, .int .i64 0, .int .i64 0]) (cs' := [.slice none 0 0, .int .i64 0, .int .i64 0]) rfl rfl rfl rfl tsz44 (Ones.sl (Ones.int (Ones.int Ones.nil))) rfl rfl HM) ?_
      rintro w908 HM
      refine ops_ex rfl (guard_none rfl) rfl rfl (ex_assign rfl rfl) ?_
      refine ops_nil ?_
      refine at_then ?_
      refine run_ret ?_
      refine at_then_ret ?_
      replace HM := HM.empty kInt 2 none
      replace HM := (HM.front 2 rfl rfl).drop
      replace HM := HM.front 1 rfl rfl
      have hcb0 := HM.box_at 0 rfl
      replace HM := (HM.front 0 rfl rfl).drop
      have hR := Option.some.inj H
      subst hR
      exact at_retN1 rfl rfl rfl Tryz.underlying44 rfl tsz44 rfl hcb0 ⟨_, rfl, _, rfl, HM⟩
    · replace H := cond_f hb907 H
      refine run_skip ?_
      refine at_then ?_
      refine run_seq ?_
      obtain ⟨e910, H⟩ := chk_some H
      obtain ⟨t911, h912, H⟩ := bind_some H
      refine run_region rfl ?_
      refine ops_ex rfl (guard_none rfl) rfl rfl (ex_move rfl rfl) ?_
      refine ops_ex rfl (guard_none rfl) rfl rfl (ex_indexAddr (d := kStr) rfl rfl rfl Tryz.underlying36 tsz9 (HM.own_rd 1 rfl) (idx_lo e910) (idx_hi e910)) ?_
      refine ops_ex rfl (guard_none rfl) rfl rfl (ex_load1 rfl rfl Tryz.underlying9 rfl ((rd_plain (HM.own_rd 1 rfl) e910) 0 _ rfl)) ?_
      refine ops_does rfl (guard_none rfl) rfl rfl (does_callk rfl callok15 rfl (spec_l2Number.calls (x0 := (gt t894 (0 : Int))) (x1 := 1) h912)) ?_
      rintro _ w913 ⟨rfl, hn⟩
      replace HM : Mem w [] w913 [box b890 44 [.slice none 0 0, .int .i64 0, .int .i64 0], own kStr 9 u896 t894] := HM.call hn
      refine ops_ex rfl (guard_none rfl) rfl rfl (ex_move rfl rfl) ?_
      refine ops_ex rfl (guard_none rfl) rfl rfl (ex_extract rfl rfl rfl) ?_
      refine ops_ex rfl (guard_none rfl) rfl rfl (ex_extract rfl rfl rfl) ?_
      refine ops_ex rfl (guard_none rfl) rfl rfl (ex_assign rfl rfl) ?_
      refine ops_ex rfl (guard_none rfl) rfl rfl (ex_assign rfl rfl) ?_
      refine ops_nil ?_
      refine at_then ?_
      refine run_seq ?_
      refine run_region rfl ?_
      refine ops_ex rfl (guard_none rfl) rfl rfl (ex_move rfl rfl) ?_
      refine ops_ex rfl (guard_none rfl) rfl rfl (ex_build (cells := #[(.slice none 0 0), (.int .i64 t911.1), (.int .i64 0)]) rfl rfl (by kernel_rfl)) ?_
      refine ops_does rfl (guard_none rfl) rfl rfl (does_alloc (cs := [.slice none 0 0, .int .i64 0, .int .i64 0]) rfl tz44 rfl HM) ?_
      rintro _ w917 ⟨b914, rfl, HM⟩
      refine ops_doesS rfl (guard_none rfl) rfl (does_store (vs := [.slice none 0 0, .int .i64 t911.1, .int .i64 0]) (cs' := [.slice none 0 0, .int .i64 t911.1, .int .i64 0]) rfl rfl rfl rfl tsz44 (Ones.sl (Ones.int (Ones.int Ones.nil))) rfl rfl HM) ?_
      rintro w918 HM
      refine ops_nil ?_
      refine at_then ?_
      refine run_seq ?_
      obtain ⟨e919, H⟩ := chk_some H
      obtain ⟨t920, h921, H⟩ := bind_some H
      refine run_region rfl ?_
      refine ops_ex rfl (guard_none rfl) rfl rfl (ex_move rfl rfl) ?_
      refine ops_ex rfl (guard_none rfl) rfl rfl (ex_indexAddr (d := kStr) rfl rfl rfl Tryz.underlying36 tsz9 (HM.own_rd 2 rfl) (idx_lo e919) (idx_hi e919)) ?_
      refine ops_ex rfl (guard_none rfl) rfl rfl (ex_load1 rfl rfl Tryz.underlying9 rfl ((rd_plain (HM.own_rd 2 rfl) e919) 0 _ rfl)) ?_
      refine ops_does rfl (guard_none rfl) rfl rfl (does_callk rfl callok14 rfl (spec_l2Cut.calls (x0 := (gt t894 (2 : Int))) (x1 := 44) h921)) ?_
      rintro u922 w924 ⟨_, rfl, hn⟩
      replace HM : Mem w [] w924 [own kStr 9 u922 t920, box b914 44 [.slice none 0 0, .int .i64 t911.1, .int .i64 0], box b890 44 [.slice none 0 0, .int .i64 0, .int .i64 0], own kStr 9 u896 t894] := HM.call hn
      refine ops_ex rfl (guard_none rfl) rfl rfl (ex_assign rfl rfl) ?_
      refine ops_nil ?_
      refine at_then ?_
      obtain ⟨o964, ho965, H⟩ := bind_some H
      refine run_mid (fun ρ_ w_ => ∃ a960 : Bool, ∃ v961 : Value, ∃ a962 : List Int, (a960, a962) = o964 ∧ ρ_ = [(2, .pointer (some ⟨b890, 0, none⟩)), (4, u896), (6, .bool a960), (7, .pointer (some ⟨b914, 0, none⟩))] ∧ Mem w [] w_ [box b890 44 [.slice none 0 0, .int .i64 0, .int .i64 0], own kStr 9 u896 t894, box b914 44 [v961, .int .i64 t911.1, .int .i64 0], own kInt 2 v961 a962]) ?_ ?_
      · clear H
        refine run_seq ?_
        refine run_region rfl ?_
        refine ops_ex rfl (guard_none rfl) rfl rfl (ex_assign rfl rfl) ?_
        refine ops_nil ?_
        refine at_then ?_
        refine run_block ?_
        replace HM := HM.empty kInt 2 none
        replace HM := HM.front 1 rfl rfl
        replace HM := HM.front 1 rfl rfl
        replace HM := HM.front 2 rfl rfl
        replace HM := HM.front 4 rfl rfl
        replace HM := HM.front 4 rfl rfl
        refine run_loop (fun k_ ρ_ w_ => ∃ a976 : Bool, ∃ v977 : Value, ∃ a978 : List Int, ∃ a980 : Int, spec_l2Parse.l0 t920 k_ a976 a978 a980 = some o964 ∧ ρ_ = [(2, .pointer (some ⟨b890, 0, none⟩)), (4, u896), (6, .bool a976), (7, .pointer (some ⟨b914, 0, none⟩)), (8, u922), (9, .int .i64 a980)] ∧ Mem w [] w_ [box b890 44 [.slice none 0 0, .int .i64 0, .int .i64 0], own kStr 9 u896 t894, box b914 44 [v977, .int .i64 t911.1, .int .i64 0], own kInt 2 v977 a978, own kStr 9 u922 t920]) k (ρ1 := [(2, .pointer (some ⟨b890, 0, none⟩)), (4, u896), (6, .bool t911.2), (7, .pointer (some ⟨b914, 0, none⟩)), (8, u922), (9, .int .i64 0)]) ⟨_, _, _, _, ho965, rfl, HM⟩ (Sub.cons rfl (Sub.cons rfl (Sub.cons rfl (Sub.cons rfl (Sub.cons rfl (Sub.cons rfl Sub.nil)))))) ?_
        clear HM ho965
        rintro k992 _ w993 ⟨a976, v977, a978, a980, ho965, rfl, HM⟩
        obtain _ | k992 := k992
        · exact nomatch ((spec_l2Parse.l0_z t920 a976 a978 a980).symm.trans ho965)
        replace ho965 := (spec_l2Parse.l0_s t920 k992 a976 a978 a980).symm.trans ho965
        refine run_seq ?_
        refine run_seq ?_
        refine run_region rfl ?_
        refine ops_ex rfl (guard_none rfl) rfl rfl (ex_move rfl rfl) ?_
        refine ops_ex rfl (guard_none rfl) rfl rfl (ex_move rfl rfl) ?_
        refine ops_ex rfl (guard_none rfl) rfl rfl (ex_len (d := kStr) (xs := t920) rfl rfl Tryz.underlying36 (HM.own_rd 4 rfl)) ?_
        refine ops_ex rfl (guard_none rfl) rfl rfl (ex_lss rfl rfl rfl) ?_
        refine ops_nil ?_
        refine at_then ?_
        refine run_cond (b := (decide (a980 < (t920.length : Int)))) rfl (fun hb994 => ?_) (fun hb994 => ?_)
        · replace ho965 := cond_t hb994 ho965
          refine run_skip ?_
          refine at_then ?_
          refine run_seq ?_
          refine run_block ?_
          refine run_seq ?_
          obtain ⟨e995, ho965⟩ := chk_some ho965
          obtain ⟨t996, h997, ho965⟩ := bind_some ho965
          refine run_region rfl ?_
          refine ops_ex rfl (guard_none rfl) rfl rfl (ex_move rfl rfl) ?_
          refine ops_ex rfl (guard_none rfl) rfl rfl (ex_move rfl rfl) ?_
          refine ops_ex rfl (guard_none rfl) rfl rfl (ex_indexAddr (d := kStr) rfl rfl rfl Tryz.underlying36 tsz9 (HM.own_rd 4 rfl) (idx_lo e995) (idx_hi e995)) ?_
          refine ops_ex rfl (guard_none rfl) rfl rfl (ex_load1 rfl rfl Tryz.underlying9 rfl ((rd_plain (HM.own_rd 4 rfl) e995) 0 _ rfl)) ?_
          refine ops_does rfl (guard_none rfl) rfl rfl (does_callk rfl callok15 rfl (spec_l2Number.calls (x0 := (gt t920 a980)) (x1 := 3) h997)) ?_
          rintro _ w998 ⟨rfl, hn⟩
          replace HM : Mem w [] w998 [box b890 44 [.slice none 0 0, .int .i64 0, .int .i64 0], own kStr 9 u896 t894, box b914 44 [v977, .int .i64 t911.1, .int .i64 0], own kInt 2 v977 a978, own kStr 9 u922 t920] := HM.call hn
          refine ops_ex rfl (guard_none rfl) rfl rfl (ex_move rfl rfl) ?_
          refine ops_ex rfl (guard_none rfl) rfl rfl (ex_extract rfl rfl rfl) ?_
          refine ops_ex rfl (guard_none rfl) rfl rfl (ex_extract rfl rfl rfl) ?_
          refine ops_ex rfl (guard_none rfl) rfl rfl (ex_assign rfl rfl) ?_
          refine ops_ex rfl (guard_none rfl) rfl rfl (ex_assign rfl rfl) ?_
          refine ops_nil ?_
          refine at_then ?_
          refine run_seq ?_
          refine run_meet (fun ρ_ w_ => ρ_ = [(2, .pointer (some ⟨b890, 0, none⟩)), (4, u896), (6, .bool (a976 && t996.2)), (7, .pointer (some ⟨b914, 0, none⟩)), (8, u922), (9, .int .i64 a980), (10, .int .i64 t996.1)] ∧ Mem w [] w_ [box b890 44 [.slice none 0 0, .int .i64 0, .int .i64 0], own kStr 9 u896 t894, box b914 44 [v977, .int .i64 t911.1, .int .i64 0], own kInt 2 v977 a978, own kStr 9 u922 t920]) ?_ ?_
          · skip
            refine run_region rfl ?_
            refine ops_ex rfl (guard_none rfl) rfl rfl (ex_move rfl rfl) ?_
            refine ops_ex rfl (guard_none rfl) rfl rfl (ex_move rfl rfl) ?_
            refine bool_cases a976 (fun hg999 => ?_) (fun hg999 => ?_)
            · skip
              refine ops_ex rfl (guard_on rfl rfl rfl hg999) rfl rfl (ex_move rfl rfl) ?_
              refine ops_ex (v := .bool (a976 && t996.2)) rfl (guard_none rfl) rfl rfl (ex_pand_t rfl rfl hg999 rfl) ?_
              refine ops_ex rfl (guard_none rfl) rfl rfl (ex_assign rfl rfl) ?_
              refine ops_nil ?_
              exact at_meet [(2, .pointer (some ⟨b890, 0, none⟩)), (4, u896), (6, .bool (a976 && t996.2)), (7, .pointer (some ⟨b914, 0, none⟩)), (8, u922), (9, .int .i64 a980), (10, .int .i64 t996.1)] ⟨rfl, HM⟩ (Sub.cons rfl (Sub.cons rfl (Sub.cons rfl (Sub.cons rfl (Sub.cons rfl (Sub.cons rfl (Sub.cons rfl Sub.nil)))))))
            · skip
              refine ops_off rfl (guard_off rfl rfl rfl hg999) rfl rfl ?_
              have hg1000 : (a976 && t996.2) = false := by simp only [hg999, Bool.and_true, Bool.true_and, Bool.and_false, Bool.false_and, Bool.or_true, Bool.true_or, Bool.or_false, Bool.false_or, Bool.not_true, Bool.not_false, Bool.not_not]
              refine ops_ex (v := .bool (a976 && t996.2)) rfl (guard_none rfl) rfl rfl (ex_pand_f rfl rfl hg999) ?_
              refine ops_ex rfl (guard_none rfl) rfl rfl (ex_assign rfl rfl) ?_
              refine ops_nil ?_
              exact at_meet [(2, .pointer (some ⟨b890, 0, none⟩)), (4, u896), (6, .bool (a976 && t996.2)), (7, .pointer (some ⟨b914, 0, none⟩)), (8, u922), (9, .int .i64 a980), (10, .int .i64 t996.1)] ⟨rfl, HM⟩ (Sub.cons rfl (Sub.cons rfl (Sub.cons rfl (Sub.cons rfl (Sub.cons rfl (Sub.cons rfl (Sub.cons rfl Sub.nil)))))))
          · rintro _ w1001 ⟨rfl, HM⟩
            refine at_then ?_
            obtain ⟨e1005, ho965⟩ := chk_some ho965
            refine run_region rfl ?_
            refine ops_ex rfl (guard_none rfl) rfl rfl (ex_fieldAddr (off' := 0) rfl rfl Tryz.underlying44 rfl tsz42 rfl) ?_
            refine ops_ex rfl (guard_none rfl) rfl rfl (ex_load1 rfl rfl Tryz.underlying42 rfl ((HM.box_at 2 rfl) 0 _ rfl)) ?_
            refine ops_ex rfl (guard_none rfl) rfl rfl (ex_move rfl rfl) ?_
            refine ops_does rfl (guard_none rfl) rfl rfl (does_lit (e := 2) (cs := [.int .i64 t996.1]) (xs := ([t996.1] : List Int)) kInt rfl rfl (fun _ => by kernel_rfl) rfl rfl (fun _ _ h => by have h' : _ = [] := h; subst h'; exact (Elems.cons (d := kInt) (x := t996.1) (f := []) ⟨rfl, rfl⟩ .nil)) HM.emp) ?_
            rintro v1002 w1008 HM
            replace HM := HM.front 4 rfl rfl
            refine ops_does rfl (guard_none rfl) rfl rfl (does_appendR kInt flat_plain rfl rfl rfl Tryz.underlying42 tsz2 rfl tby2 tz2 rfl rfl (leB_le e1005) (HM.own_rd 1 rfl) HM) ?_
            rintro v1006 w1009 HM
            refine ops_ex rfl (guard_none rfl) rfl rfl (ex_fieldAddr (off' := 0) rfl rfl Tryz.underlying44 rfl tsz42 rfl) ?_
            replace HM := HM.front 4 rfl rfl
            refine ops_doesS rfl (guard_none rfl) rfl (does_store (vs := [v1006]) (cs' := [v1006, .int .i64 t911.1, .int .i64 0]) rfl rfl rfl (rd_cells (HM.own_rd 1 rfl)) tsz42 (Ones.rd (HM.own_rd 1 rfl) Ones.nil) rfl rfl HM) ?_
            rintro w1010 HM
            refine ops_nil ?_
            refine at_block ?_
            refine at_then ?_
            refine run_region rfl ?_
            refine ops_ex rfl (guard_none rfl) rfl rfl (ex_move rfl rfl) ?_
            refine ops_ex rfl (guard_none rfl) rfl rfl (ex_add rfl rfl rfl) ?_
            refine ops_ex rfl (guard_none rfl) rfl rfl (ex_assign rfl rfl) ?_
            refine ops_nil ?_
            replace HM := (HM.front 2 rfl rfl).drop
            replace HM := HM.front 4 rfl rfl
            replace HM := HM.front 2 rfl rfl
            replace HM := HM.front 2 rfl rfl
            replace HM := HM.front 4 rfl rfl
            replace HM := HM.front 4 rfl rfl
            exact at_again k992 (ρ1 := [(2, .pointer (some ⟨b890, 0, none⟩)), (4, u896), (6, .bool (a976 && t996.2)), (7, .pointer (some ⟨b914, 0, none⟩)), (8, u922), (9, .int .i64 (wrap64 (a980 + 1)))]) (Nat.lt_succ_self _) ⟨_, _, _, _, ho965, rfl, HM⟩ (Sub.cons rfl (Sub.cons rfl (Sub.cons rfl (Sub.cons rfl (Sub.cons rfl (Sub.cons rfl Sub.nil))))))
        · replace ho965 := cond_f hb994 ho965
          refine run_exit ?_
          refine at_then_exit ?_
          refine at_then_exit ?_
          refine at_block_exit ?_
          replace HM := (HM.front 4 rfl rfl).drop
          exact at_mid (ρ' := [(2, .pointer (some ⟨b890, 0, none⟩)), (4, u896), (6, .bool a976), (7, .pointer (some ⟨b914, 0, none⟩))]) ⟨_, _, _, (Option.some.inj ho965), rfl, HM⟩ (Sub.cons rfl (Sub.cons rfl (Sub.cons rfl (Sub.cons rfl Sub.nil))))
      · rintro _ w1011 ⟨a960, v961, a962, rfl, rfl, HM⟩
        replace H := cur2_mk H
        obtain ⟨o1024, ho1025, H⟩ := bind_some H
        refine run_mid (fun ρ_ w_ => ∃ a1022 : Bool, ∃ a1023 : Int, (a1022, a1023) = o1024 ∧ ρ_ = [(2, .pointer (some ⟨b890, 0, none⟩)), (6, .bool a1022), (7, .pointer (some ⟨b914, 0, none⟩))] ∧ Mem w [] w_ [box b890 44 [.slice none 0 0, .int .i64 0, .int .i64 0], box b914 44 [v961, .int .i64 t911.1, .int .i64 a1023], own kInt 2 v961 a962]) ?_ ?_
        · clear H
          refine run_seq ?_
          refine run_region rfl ?_
          refine ops_ex rfl (guard_none rfl) rfl rfl (ex_move rfl rfl) ?_
          refine ops_ex rfl (guard_none rfl) rfl rfl (ex_len (d := kStr) (xs := t894) rfl rfl Tryz.underlying36 (HM.own_rd 1 rfl)) ?_
          refine ops_ex rfl (guard_none rfl) rfl rfl (ex_eql rfl rfl rfl) ?_
          refine ops_nil ?_
          refine at_then ?_
          refine run_cond (b := ((t894.length : Int) == 5)) rfl (fun hb1026 => ?_) (fun hb1026 => ?_)
          · replace ho1025 := cond_t hb1026 ho1025
            refine run_seq ?_
            obtain ⟨e1027, ho1025⟩ := chk_some ho1025
            obtain ⟨t1028, h1029, ho1025⟩ := bind_some ho1025
            refine run_region rfl ?_
            refine ops_ex rfl (guard_none rfl) rfl rfl (ex_move rfl rfl) ?_
            refine ops_ex rfl (guard_none rfl) rfl rfl (ex_indexAddr (d := kStr) rfl rfl rfl Tryz.underlying36 tsz9 (HM.own_rd 1 rfl) (idx_lo e1027) (idx_hi e1027)) ?_
            refine ops_ex rfl (guard_none rfl) rfl rfl (ex_load1 rfl rfl Tryz.underlying9 rfl ((rd_plain (HM.own_rd 1 rfl) e1027) 0 _ rfl)) ?_
            refine ops_does rfl (guard_none rfl) rfl rfl (does_callk rfl callok15 rfl (spec_l2Number.calls (x0 := (gt t894 (4 : Int))) (x1 := 3) h1029)) ?_
            rintro _ w1030 ⟨rfl, hn⟩
            replace HM : Mem w [] w1030 [box b890 44 [.slice none 0 0, .int .i64 0, .int .i64 0], own kStr 9 u896 t894, box b914 44 [v961, .int .i64 t911.1, .int .i64 0], own kInt 2 v961 a962] := HM.call hn
            refine ops_ex rfl (guard_none rfl) rfl rfl (ex_move rfl rfl) ?_
            refine ops_ex rfl (guard_none rfl) rfl rfl (ex_extract rfl rfl rfl) ?_
            refine ops_ex rfl (guard_none rfl) rfl rfl (ex_extract rfl rfl rfl) ?_
            refine ops_ex rfl (guard_none rfl) rfl rfl (ex_assign rfl rfl) ?_
            refine ops_ex rfl (guard_none rfl) rfl rfl (ex_assign rfl rfl) ?_
            refine ops_nil ?_
            refine at_then ?_
            refine run_seq ?_
            obtain ⟨e1031, ho1025⟩ := chk_some ho1025
            refine run_meet (fun ρ_ w_ => ρ_ = [(2, .pointer (some ⟨b890, 0, none⟩)), (6, .bool (((a960 && t1028.2) && (sEq (gt t894 (3 : Int)) (⟨#[97, 102, 116, 101, 114]⟩ : ByteArray))) && (decide (0 < t1028.1)))), (7, .pointer (some ⟨b914, 0, none⟩)), (12, .int .i64 t1028.1)] ∧ Mem w [] w_ [box b890 44 [.slice none 0 0, .int .i64 0, .int .i64 0], box b914 44 [v961, .int .i64 t911.1, .int .i64 0], own kInt 2 v961 a962]) ?_ ?_
            · skip
              refine run_region rfl ?_
              refine ops_ex rfl (guard_none rfl) rfl rfl (ex_move rfl rfl) ?_
              refine ops_ex rfl (guard_none rfl) rfl rfl (ex_move rfl rfl) ?_
              refine bool_cases a960 (fun hg1032 => ?_) (fun hg1032 => ?_)
              · skip
                refine ops_ex rfl (guard_on rfl rfl rfl hg1032) rfl rfl (ex_move rfl rfl) ?_
                refine ops_ex (v := .bool (a960 && t1028.2)) rfl (guard_none rfl) rfl rfl (ex_pand_t rfl rfl hg1032 rfl) ?_
                refine ops_ex rfl (guard_none rfl) rfl rfl (ex_move rfl rfl) ?_
                refine bool_cases (a960 && t1028.2) (fun hg1033 => ?_) (fun hg1033 => ?_)
                · skip
                  refine ops_ex rfl (guard_on rfl rfl rfl hg1033) rfl rfl (ex_move rfl rfl) ?_
                  refine ops_ex rfl (guard_on rfl rfl rfl hg1033) rfl rfl (ex_indexAddr (d := kStr) rfl rfl rfl Tryz.underlying36 tsz9 (HM.own_rd 1 rfl) (idx_lo (or_t e1031 hg1033)) (idx_hi (or_t e1031 hg1033))) ?_
                  refine ops_ex rfl (guard_on rfl rfl rfl hg1033) rfl rfl (ex_load1 rfl rfl Tryz.underlying9 rfl ((rd_plain (HM.own_rd 1 rfl) (or_t e1031 hg1033)) 0 _ rfl)) ?_
                  refine ops_ex rfl (guard_on rfl rfl rfl hg1033) rfl rfl (ex_seql rfl rfl rfl) ?_
                  refine ops_ex (v := .bool ((a960 && t1028.2) && (sEq (gt t894 (3 : Int)) (⟨#[97, 102, 116, 101, 114]⟩ : ByteArray)))) rfl (guard_none rfl) rfl rfl (ex_pand_t rfl rfl hg1033 rfl) ?_
                  refine ops_ex rfl (guard_none rfl) rfl rfl (ex_move rfl rfl) ?_
                  refine bool_cases ((a960 && t1028.2) && (sEq (gt t894 (3 : Int)) (⟨#[97, 102, 116, 101, 114]⟩ : ByteArray))) (fun hg1034 => ?_) (fun hg1034 => ?_)
                  · skip
                    refine ops_ex rfl (guard_on rfl rfl rfl hg1034) rfl rfl (ex_move rfl rfl) ?_
                    refine ops_ex rfl (guard_on rfl rfl rfl hg1034) rfl rfl (ex_gtr rfl rfl rfl) ?_
                    refine ops_ex (v := .bool (((a960 && t1028.2) && (sEq (gt t894 (3 : Int)) (⟨#[97, 102, 116, 101, 114]⟩ : ByteArray))) && (decide (0 < t1028.1)))) rfl (guard_none rfl) rfl rfl (ex_pand_t rfl rfl hg1034 rfl) ?_
                    refine ops_ex rfl (guard_none rfl) rfl rfl (ex_assign rfl rfl) ?_
                    refine ops_nil ?_
                    replace HM := (HM.front 1 rfl rfl).drop
                    exact at_meet [(2, .pointer (some ⟨b890, 0, none⟩)), (6, .bool (((a960 && t1028.2) && (sEq (gt t894 (3 : Int)) (⟨#[97, 102, 116, 101, 114]⟩ : ByteArray))) && (decide (0 < t1028.1)))), (7, .pointer (some ⟨b914, 0, none⟩)), (12, .int .i64 t1028.1)] ⟨rfl, HM⟩ (Sub.cons rfl (Sub.cons rfl (Sub.cons rfl (Sub.cons rfl Sub.nil))))
                  · skip
                    refine ops_off rfl (guard_off rfl rfl rfl hg1034) rfl rfl ?_
                    refine ops_off rfl (guard_off rfl rfl rfl hg1034) rfl rfl ?_
                    have hg1035 : (((a960 && t1028.2) && (sEq (gt t894 (3 : Int)) (⟨#[97, 102, 116, 101, 114]⟩ : ByteArray))) && (decide (0 < t1028.1))) = false := by simp only [hg1034, Bool.and_true, Bool.true_and, Bool.and_false, Bool.false_and, Bool.or_true, Bool.true_or, Bool.or_false, Bool.false_or, Bool.not_true, Bool.not_false, Bool.not_not]
                    refine ops_ex (v := .bool (((a960 && t1028.2) && (sEq (gt t894 (3 : Int)) (⟨#[97, 102, 116, 101, 114]⟩ : ByteArray))) && (decide (0 < t1028.1)))) rfl (guard_none rfl) rfl rfl (ex_pand_f rfl rfl hg1034) ?_
                    refine ops_ex rfl (guard_none rfl) rfl rfl (ex_assign rfl rfl) ?_
                    refine ops_nil ?_
                    replace HM := (HM.front 1 rfl rfl).drop
                    exact at_meet [(2, .pointer (some ⟨b890, 0, none⟩)), (6, .bool (((a960 && t1028.2) && (sEq (gt t894 (3 : Int)) (⟨#[97, 102, 116, 101, 114]⟩ : ByteArray))) && (decide (0 < t1028.1)))), (7, .pointer (some ⟨b914, 0, none⟩)), (12, .int .i64 t1028.1)] ⟨rfl, HM⟩ (Sub.cons rfl (Sub.cons rfl (Sub.cons rfl (Sub.cons rfl Sub.nil))))
                · skip
                  refine ops_off rfl (guard_off rfl rfl rfl hg1033) rfl rfl ?_
                  refine ops_off rfl (guard_off rfl rfl rfl hg1033) rfl rfl ?_
                  refine ops_off rfl (guard_off rfl rfl rfl hg1033) rfl rfl ?_
                  refine ops_off rfl (guard_off rfl rfl rfl hg1033) rfl rfl ?_
                  have hg1036 : ((a960 && t1028.2) && (sEq (gt t894 (3 : Int)) (⟨#[97, 102, 116, 101, 114]⟩ : ByteArray))) = false := by simp only [hg1033, Bool.and_true, Bool.true_and, Bool.and_false, Bool.false_and, Bool.or_true, Bool.true_or, Bool.or_false, Bool.false_or, Bool.not_true, Bool.not_false, Bool.not_not]
                  refine ops_ex (v := .bool ((a960 && t1028.2) && (sEq (gt t894 (3 : Int)) (⟨#[97, 102, 116, 101, 114]⟩ : ByteArray)))) rfl (guard_none rfl) rfl rfl (ex_pand_f rfl rfl hg1033) ?_
                  refine ops_ex rfl (guard_none rfl) rfl rfl (ex_move rfl rfl) ?_
                  refine ops_off rfl (guard_off rfl rfl rfl hg1036) rfl rfl ?_
                  refine ops_off rfl (guard_off rfl rfl rfl hg1036) rfl rfl ?_
                  have hg1037 : (((a960 && t1028.2) && (sEq (gt t894 (3 : Int)) (⟨#[97, 102, 116, 101, 114]⟩ : ByteArray))) && (decide (0 < t1028.1))) = false := by simp only [hg1036, Bool.and_true, Bool.true_and, Bool.and_false, Bool.false_and, Bool.or_true, Bool.true_or, Bool.or_false, Bool.false_or, Bool.not_true, Bool.not_false, Bool.not_not]
                  refine ops_ex (v := .bool (((a960 && t1028.2) && (sEq (gt t894 (3 : Int)) (⟨#[97, 102, 116, 101, 114]⟩ : ByteArray))) && (decide (0 < t1028.1)))) rfl (guard_none rfl) rfl rfl (ex_pand_f rfl rfl hg1036) ?_
                  refine ops_ex rfl (guard_none rfl) rfl rfl (ex_assign rfl rfl) ?_
                  refine ops_nil ?_
                  replace HM := (HM.front 1 rfl rfl).drop
                  exact at_meet [(2, .pointer (some ⟨b890, 0, none⟩)), (6, .bool (((a960 && t1028.2) && (sEq (gt t894 (3 : Int)) (⟨#[97, 102, 116, 101, 114]⟩ : ByteArray))) && (decide (0 < t1028.1)))), (7, .pointer (some ⟨b914, 0, none⟩)), (12, .int .i64 t1028.1)] ⟨rfl, HM⟩ (Sub.cons rfl (Sub.cons rfl (Sub.cons rfl (Sub.cons rfl Sub.nil))))
              · skip
                refine ops_off rfl (guard_off rfl rfl rfl hg1032) rfl rfl ?_
                have hg1038 : (a960 && t1028.2) = false := by simp only [hg1032, Bool.and_true, Bool.true_and, Bool.and_false, Bool.false_and, Bool.or_true, Bool.true_or, Bool.or_false, Bool.false_or, Bool.not_true, Bool.not_false, Bool.not_not]
                refine ops_ex (v := .bool (a960 && t1028.2)) rfl (guard_none rfl) rfl rfl (ex_pand_f rfl rfl hg1032) ?_
                refine ops_ex rfl (guard_none rfl) rfl rfl (ex_move rfl rfl) ?_
                refine ops_off rfl (guard_off rfl rfl rfl hg1038) rfl rfl ?_
                refine ops_off rfl (guard_off rfl rfl rfl hg1038) rfl rfl ?_
                refine ops_off rfl (guard_off rfl rfl rfl hg1038) rfl rfl ?_
                refine ops_off rfl (guard_off rfl rfl rfl hg1038) rfl rfl ?_
                have hg1039 : ((a960 && t1028.2) && (sEq (gt t894 (3 : Int)) (⟨#[97, 102, 116, 101, 114]⟩ : ByteArray))) = false := by simp only [hg1038, Bool.and_true, Bool.true_and, Bool.and_false, Bool.false_and, Bool.or_true, Bool.true_or, Bool.or_false, Bool.false_or, Bool.not_true, Bool.not_false, Bool.not_not]
                refine ops_ex (v := .bool ((a960 && t1028.2) && (sEq (gt t894 (3 : Int)) (⟨#[97, 102, 116, 101, 114]⟩ : ByteArray)))) rfl (guard_none rfl) rfl rfl (ex_pand_f rfl rfl hg1038) ?_
                refine ops_ex rfl (guard_none rfl) rfl rfl (ex_move rfl rfl) ?_
                refine ops_off rfl (guard_off rfl rfl rfl hg1039) rfl rfl ?_
                refine ops_off rfl (guard_off rfl rfl rfl hg1039) rfl rfl ?_
                have hg1040 : (((a960 && t1028.2) && (sEq (gt t894 (3 : Int)) (⟨#[97, 102, 116, 101, 114]⟩ : ByteArray))) && (decide (0 < t1028.1))) = false := by simp only [hg1039, Bool.and_true, Bool.true_and, Bool.and_false, Bool.false_and, Bool.or_true, Bool.true_or, Bool.or_false, Bool.false_or, Bool.not_true, Bool.not_false, Bool.not_not]
                refine ops_ex (v := .bool (((a960 && t1028.2) && (sEq (gt t894 (3 : Int)) (⟨#[97, 102, 116, 101, 114]⟩ : ByteArray))) && (decide (0 < t1028.1)))) rfl (guard_none rfl) rfl rfl (ex_pand_f rfl rfl hg1039) ?_
                refine ops_ex rfl (guard_none rfl) rfl rfl (ex_assign rfl rfl) ?_
                refine ops_nil ?_
                replace HM := (HM.front 1 rfl rfl).drop
                exact at_meet [(2, .pointer (some ⟨b890, 0, none⟩)), (6, .bool (((a960 && t1028.2) && (sEq (gt t894 (3 : Int)) (⟨#[97, 102, 116, 101, 114]⟩ : ByteArray))) && (decide (0 < t1028.1)))), (7, .pointer (some ⟨b914, 0, none⟩)), (12, .int .i64 t1028.1)] ⟨rfl, HM⟩ (Sub.cons rfl (Sub.cons rfl (Sub.cons rfl (Sub.cons rfl Sub.nil))))
            · rintro _ w1041 ⟨rfl, HM⟩
              refine at_then ?_
              refine run_region rfl ?_
              refine ops_ex rfl (guard_none rfl) rfl rfl (ex_move rfl rfl) ?_
              refine ops_ex rfl (guard_none rfl) rfl rfl (ex_fieldAddr (off' := 2) rfl rfl Tryz.underlying44 rfl tsz2 rfl) ?_
              replace HM := HM.front 1 rfl rfl
              refine ops_doesS rfl (guard_none rfl) rfl (does_store (vs := [.int .i64 t1028.1]) (cs' := [v961, .int .i64 t911.1, .int .i64 t1028.1]) rfl rfl rfl rfl tsz2 (Ones.int Ones.nil) rfl rfl HM) ?_
              rintro w1042 HM
              refine ops_nil ?_
              replace HM := HM.front 2 rfl rfl
              replace HM := HM.front 1 rfl rfl
              replace HM := HM.front 2 rfl rfl
              exact at_mid (ρ' := [(2, .pointer (some ⟨b890, 0, none⟩)), (6, .bool (((a960 && t1028.2) && (sEq (gt t894 (3 : Int)) (⟨#[97, 102, 116, 101, 114]⟩ : ByteArray))) && (decide (0 < t1028.1)))), (7, .pointer (some ⟨b914, 0, none⟩))]) ⟨_, _, (Option.some.inj ho1025), rfl, HM⟩ (Sub.cons rfl (Sub.cons rfl (Sub.cons rfl Sub.nil)))
          · replace ho1025 := cond_f hb1026 ho1025
            refine run_skip ?_
            replace HM := (HM.front 1 rfl rfl).drop
            exact at_mid (ρ' := [(2, .pointer (some ⟨b890, 0, none⟩)), (6, .bool a960), (7, .pointer (some ⟨b914, 0, none⟩))]) ⟨_, _, (Option.some.inj ho1025), rfl, HM⟩ (Sub.cons rfl (Sub.cons rfl (Sub.cons rfl Sub.nil)))
        · rintro _ w1043 ⟨a1022, a1023, rfl, rfl, HM⟩
          replace H := cur2_mk H
          refine run_seq ?_
          obtain ⟨t1044, h1045, H⟩ := bind_some H
          refine run_meet (fun ρ_ w_ => ρ_ = [(2, .pointer (some ⟨b890, 0, none⟩)), (3, .bool (a1022 && (t1044 == 0)))] ∧ Mem w [] w_ [box b890 44 [v961, .int .i64 t911.1, .int .i64 a1023], own kInt 2 v961 a962]) ?_ ?_
          · skip
            refine run_drawf (fun w_ => Mem w [] w_ [box b914 44 [v961, .int .i64 t911.1, .int .i64 a1023], own kInt 2 v961 a962]) [(0, true), (1, true), (2, true), (3, false), (4, true), (5, true), (6, false), (7, true)] mixed rfl rfl (by kernel_rfl) ?_
            replace HM := HM.grow (fr_drew _)
            have hS := Mem.suf (M := [box b890 44 [.slice none 0 0, .int .i64 0, .int .i64 0]]) HM
            refine drwp_take rfl (guard_none rfl) rfl rfl (fun w_ hS_ => (ex_loadN (cs := [v961, (.int .i64 t911.1), (.int .i64 a1023)]) rfl rfl Tryz.underlying44 rfl tsz44 rfl ((hS_.box_at 0 rfl).sub 0 3 rfl))) hS ?_
            refine drwp_take rfl (guard_none rfl) rfl rfl (fun w_ hS_ => (ex_move rfl rfl)) hS ?_
            refine drwp_take rfl (guard_none rfl) rfl rfl (fun w_ hS_ => (ex_move rfl rfl)) hS ?_
            refine bool_cases a1022 (fun hg1046 => ?_) (fun hg1046 => ?_)
            · skip
              refine drwp_one rfl (guard_on rfl rfl rfl hg1046) rfl rfl (does_callk rfl callok35 rfl (spec_l2Fault.calls (x0 := (⟨a962, t911.1, a1023⟩ : Rule)) (HM.box_at 1 rfl) (HM.own_rd 2 rfl) (cond_t hg1046 h1045))) ?_
              rintro _ w1047 ⟨rfl, hn⟩
              replace HM : Mem w [] w1047 [box b890 44 [.slice none 0 0, .int .i64 0, .int .i64 0], box b914 44 [v961, .int .i64 t911.1, .int .i64 a1023], own kInt 2 v961 a962] := HM.call hn
              refine ⟨Mem.suf (M := [box b890 44 [.slice none 0 0, .int .i64 0, .int .i64 0]]) HM, ?_⟩
              have hS := Mem.suf (M := [box b890 44 [.slice none 0 0, .int .i64 0, .int .i64 0]]) HM
              refine drwp_take rfl (guard_on rfl rfl rfl hg1046) rfl rfl (fun w_ hS_ => (ex_eql rfl rfl rfl)) hS ?_
              refine drwp_take (v := .bool (a1022 && (t1044 == 0))) rfl (guard_none rfl) rfl rfl (fun w_ hS_ => (ex_pand_t rfl rfl hg1046 rfl)) hS ?_
              refine drwp_oneS rfl (guard_none rfl) rfl (does_store (vs := [v961, .int .i64 t911.1, .int .i64 a1023]) (cs' := [v961, .int .i64 t911.1, .int .i64 a1023]) rfl rfl rfl rfl tsz44 (Ones.rd (HM.own_rd 2 rfl) (Ones.int (Ones.int Ones.nil))) rfl rfl HM) ?_
              rintro w1048 HM
              refine ⟨Mem.suf (M := [box b890 44 [v961, .int .i64 t911.1, .int .i64 a1023]]) HM, ?_⟩
              have hS := Mem.suf (M := [box b890 44 [v961, .int .i64 t911.1, .int .i64 a1023]]) HM
              refine drwp_take rfl (guard_none rfl) rfl rfl (fun w_ hS_ => (ex_assign rfl rfl)) hS ?_
              refine drwp_done ?_
              replace HM := (HM.front 1 rfl rfl).drop
              exact at_meet [(2, .pointer (some ⟨b890, 0, none⟩)), (3, .bool (a1022 && (t1044 == 0)))] ⟨rfl, HM⟩ (Sub.cons rfl (Sub.cons rfl Sub.nil))
            · skip
              refine drwp_off1 rfl (guard_off rfl rfl rfl hg1046) rfl rfl ⟨hS, ?_⟩
              refine drwp_off rfl (guard_off rfl rfl rfl hg1046) rfl rfl hS ?_
              have hg1049 : (a1022 && (t1044 == 0)) = false := by simp only [hg1046, Bool.and_true, Bool.true_and, Bool.and_false, Bool.false_and, Bool.or_true, Bool.true_or, Bool.or_false, Bool.false_or, Bool.not_true, Bool.not_false, Bool.not_not]
              refine drwp_take (v := .bool (a1022 && (t1044 == 0))) rfl (guard_none rfl) rfl rfl (fun w_ hS_ => (ex_pand_f rfl rfl hg1046)) hS ?_
              refine drwp_oneS rfl (guard_none rfl) rfl (does_store (vs := [v961, .int .i64 t911.1, .int .i64 a1023]) (cs' := [v961, .int .i64 t911.1, .int .i64 a1023]) rfl rfl rfl rfl tsz44 (Ones.rd (HM.own_rd 2 rfl) (Ones.int (Ones.int Ones.nil))) rfl rfl HM) ?_
              rintro w1050 HM
              refine ⟨Mem.suf (M := [box b890 44 [v961, .int .i64 t911.1, .int .i64 a1023]]) HM, ?_⟩
              have hS := Mem.suf (M := [box b890 44 [v961, .int .i64 t911.1, .int .i64 a1023]]) HM
              refine drwp_take rfl (guard_none rfl) rfl rfl (fun w_ hS_ => (ex_assign rfl rfl)) hS ?_
              refine drwp_done ?_
              replace HM := (HM.front 1 rfl rfl).drop
              exact at_meet [(2, .pointer (some ⟨b890, 0, none⟩)), (3, .bool (a1022 && (t1044 == 0)))] ⟨rfl, HM⟩ (Sub.cons rfl (Sub.cons rfl Sub.nil))
          · rintro _ w1051 ⟨rfl, HM⟩
            refine at_then ?_
            refine run_ret ?_
            have hcb0 := HM.box_at 0 rfl
            replace HM := (HM.front 0 rfl rfl).drop
            have hR := Option.some.inj H
            subst hR
            exact at_retN1 rfl rfl rfl Tryz.underlying44 rfl tsz44 rfl hcb0 ⟨_, rfl, _, rfl, HM⟩

def spec_l3Ref.f (k : Nat) (x0 : Ref) : Option Bool := ((spec_l1In.f k x0.fTx 1 60).bind fun t1166 => ((bif t1166 then spec_l1In.f k x0.fAt 0 3 else some default).bind fun t1168 => some (t1166 && t1168)))
theorem spec_l3Ref.calls {k : Nat} {x0 : Ref}  {w : World}  {r : Bool} (H : spec_l3Ref.f k x0 = some r) :
    Calls Tryz.prog 38 ([.agg #[(.int .i64 x0.fTx), (.int .i64 x0.fAt)]] : List Value).toArray w (fun e w_ => ∃ v, e = .returned v ∧ v = (.bool r) ∧ Mem w [] w_ []) := by
  have HM := Mem.start w
  refine calls_run (N := 11) Tryz.func38 rfl rfl rfl rfl ?_
  unfold spec_l3Ref.f at H
  refine run_seq ?_
  refine run_region rfl ?_
  refine ops_does rfl (guard_none rfl) rfl rfl (does_box (cs := [.int .i64 x0.fTx, .int .i64 x0.fAt]) rfl rfl rfl HM) ?_
  rintro _ w1165 ⟨b1162, rfl, HM⟩
  refine ops_ex rfl (guard_none rfl) rfl rfl (ex_assign rfl rfl) ?_
  refine ops_nil ?_
  refine at_then ?_
  refine run_seq ?_
  obtain ⟨t1166, h1167, H⟩ := bind_some H
  obtain ⟨t1168, h1169, H⟩ := bind_some H
  refine run_meet (fun ρ_ w_ => ρ_ = [(2, .bool (t1166 && t1168))] ∧ Mem w [] w_ []) ?_ ?_
  · skip
    refine run_region rfl ?_
    refine ops_ex rfl (guard_none rfl) rfl rfl (ex_fieldAddr (off' := 0) rfl rfl Tryz.underlying60 rfl tsz2 rfl) ?_
    refine ops_ex rfl (guard_none rfl) rfl rfl (ex_load1 rfl rfl Tryz.underlying2 rfl ((HM.box_at 0 rfl) 0 _ rfl)) ?_
    refine ops_does rfl (guard_none rfl) rfl rfl (does_callk rfl callok36 rfl (spec_l1In.calls (x0 := x0.fTx) (x1 := 1) (x2 := 60) h1167)) ?_
    rintro _ w1170 ⟨rfl, hn⟩
    replace HM : Mem w [] w1170 [box b1162 60 [.int .i64 x0.fTx, .int .i64 x0.fAt]] := HM.call hn
    refine ops_ex rfl (guard_none rfl) rfl rfl (ex_move rfl rfl) ?_
    refine bool_cases t1166 (fun hg1171 => ?_) (fun hg1171 => ?_)
    · skip
      refine ops_ex rfl (guard_on rfl rfl rfl hg1171) rfl rfl (ex_fieldAddr (off' := 1) rfl rfl Tryz.underlying60 rfl tsz2 rfl) ?_
      refine ops_ex rfl (guard_on rfl rfl rfl hg1171) rfl rfl (ex_load1 rfl rfl Tryz.underlying2 rfl ((HM.box_at 0 rfl) 1 _ rfl)) ?_
      refine ops_does rfl (guard_on rfl rfl rfl hg1171) rfl rfl (does_callk rfl callok36 rfl (spec_l1In.calls (x0 := x0.fAt) (x1 := 0) (x2 := 3) (cond_t hg1171 h1169))) ?_
      rintro _ w1172 ⟨rfl, hn⟩
      replace HM : Mem w [] w1172 [box b1162 60 [.int .i64 x0.fTx, .int .i64 x0.fAt]] := HM.call hn
      refine ops_ex (v := .bool (t1166 && t1168)) rfl (guard_none rfl) rfl rfl (ex_pand_t rfl rfl hg1171 rfl) ?_
      refine ops_ex rfl (guard_none rfl) rfl rfl (ex_assign rfl rfl) ?_
      refine ops_nil ?_
      replace HM := (HM.front 0 rfl rfl).drop
      exact at_meet [(2, .bool (t1166 && t1168))] ⟨rfl, HM⟩ (Sub.cons rfl Sub.nil)
    · skip
      refine ops_off rfl (guard_off rfl rfl rfl hg1171) rfl rfl ?_
      refine ops_off rfl (guard_off rfl rfl rfl hg1171) rfl rfl ?_
      refine ops_off rfl (guard_off rfl rfl rfl hg1171) rfl rfl ?_
      have hg1173 : (t1166 && t1168) = false := by simp only [hg1171, Bool.and_true, Bool.true_and, Bool.and_false, Bool.false_and, Bool.or_true, Bool.true_or, Bool.or_false, Bool.false_or, Bool.not_true, Bool.not_false, Bool.not_not]
      refine ops_ex (v := .bool (t1166 && t1168)) rfl (guard_none rfl) rfl rfl (ex_pand_f rfl rfl hg1171) ?_
      refine ops_ex rfl (guard_none rfl) rfl rfl (ex_assign rfl rfl) ?_
      refine ops_nil ?_
      replace HM := (HM.front 0 rfl rfl).drop
      exact at_meet [(2, .bool (t1166 && t1168))] ⟨rfl, HM⟩ (Sub.cons rfl Sub.nil)
  · rintro _ w1174 ⟨rfl, HM⟩
    refine at_then ?_
    refine run_ret ?_
    have hR := Option.some.inj H
    subst hR
    exact at_ret1 rfl rfl ⟨_, rfl, rfl, HM⟩

def spec_l3Among.l0 (x0 : List Ref) (x1 : Ref) : Nat → Int → Option (Bool ⊕ Unit)
  | 0, _ => none
  | k + 1, a1230 => (bif (decide (a1230 < (x0.length : Int))) then (chk (idxOk a1230 x0.length) (bif ((((gt x0 a1230).fTx) == x1.fTx) && (((gt x0 a1230).fAt) == x1.fAt)) then some (.inl true) else spec_l3Among.l0 x0 x1 k (wrap64 (a1230 + 1)))) else some (.inr ()))
theorem spec_l3Among.l0_z (x0 : List Ref) (x1 : Ref) (a1230 : Int) : spec_l3Among.l0 x0 x1 0 a1230 = none := rfl
theorem spec_l3Among.l0_s (x0 : List Ref) (x1 : Ref) (k : Nat) (a1230 : Int) : spec_l3Among.l0 x0 x1 (k + 1) a1230 = (bif (decide (a1230 < (x0.length : Int))) then (chk (idxOk a1230 x0.length) (bif ((((gt x0 a1230).fTx) == x1.fTx) && (((gt x0 a1230).fAt) == x1.fAt)) then some (.inl true) else spec_l3Among.l0 x0 x1 k (wrap64 (a1230 + 1)))) else some (.inr ())) := rfl
def spec_l3Among.f (k : Nat) (x0 : List Ref) (x1 : Ref) : Option Bool := ((spec_l3Among.l0 x0 x1 k 0).bind fun o1224 => thn o1224 (fun r => some r) (fun _ => some false))
theorem spec_l3Among.calls {k : Nat} {x0 : List Ref} {x1 : Ref} {p0 : Value} {w : World} (hp0 : RdS kRef w p0 x0) {r : Bool} (H : spec_l3Among.f k x0 x1 = some r) :
    Calls Tryz.prog 39 ([p0, .agg #[(.int .i64 x1.fTx), (.int .i64 x1.fAt)]] : List Value).toArray w (fun e w_ => ∃ v, e = .returned v ∧ v = (.bool r) ∧ Mem w [] w_ []) := by
  have HM := Mem.start w
  refine calls_run (N := 18) Tryz.func39 rfl rfl rfl rfl ?_
  unfold spec_l3Among.f at H
  refine run_seq ?_
  refine run_region rfl ?_
  refine ops_does rfl (guard_none rfl) rfl rfl (does_box (cs := [.int .i64 x1.fTx, .int .i64 x1.fAt]) rfl rfl rfl HM) ?_
  rintro _ w1210 ⟨b1207, rfl, HM⟩
  refine ops_ex rfl (guard_none rfl) rfl rfl (ex_assign rfl rfl) ?_
  refine ops_nil ?_
  refine at_then ?_
  obtain ⟨o1224, ho1225, H⟩ := bind_some H
  refine run_mid (fun ρ_ w_ => Sum.inr () = o1224 ∧ ρ_ = [] ∧ Mem w [] w_ []) ?_ ?_
  · skip
    refine run_seq ?_
    refine run_region rfl ?_
    refine ops_ex rfl (guard_none rfl) rfl rfl (ex_assign rfl rfl) ?_
    refine ops_nil ?_
    refine at_then ?_
    refine run_block ?_
    refine run_loop (fun k_ ρ_ w_ => ∃ a1230 : Int, spec_l3Among.l0 x0 x1 k_ a1230 = some o1224 ∧ ρ_ = [(0, p0), (3, .pointer (some ⟨b1207, 0, none⟩)), (5, .int .i64 a1230)] ∧ Mem w [] w_ [box b1207 60 [.int .i64 x1.fTx, .int .i64 x1.fAt]]) k (ρ1 := [(0, p0), (3, .pointer (some ⟨b1207, 0, none⟩)), (5, .int .i64 0)]) ⟨_, ho1225, rfl, HM⟩ (Sub.cons rfl (Sub.cons rfl (Sub.cons rfl Sub.nil))) ?_
    clear HM ho1225
    rintro k1235 _ w1236 ⟨a1230, ho1225, rfl, HM⟩
    obtain _ | k1235 := k1235
    · exact nomatch ((spec_l3Among.l0_z x0 x1 a1230).symm.trans ho1225)
    replace ho1225 := (spec_l3Among.l0_s x0 x1 k1235 a1230).symm.trans ho1225
    refine run_seq ?_
    refine run_seq ?_
    refine run_region rfl ?_
    refine ops_ex rfl (guard_none rfl) rfl rfl (ex_move rfl rfl) ?_
    refine ops_ex rfl (guard_none rfl) rfl rfl (ex_move rfl rfl) ?_
    refine ops_ex rfl (guard_none rfl) rfl rfl (ex_len (d := kRef) (xs := x0) rfl rfl Tryz.underlying22 hp0) ?_
    refine ops_ex rfl (guard_none rfl) rfl rfl (ex_lss rfl rfl rfl) ?_
    refine ops_nil ?_
    refine at_then ?_
    refine run_cond (b := (decide (a1230 < (x0.length : Int)))) rfl (fun hb1237 => ?_) (fun hb1237 => ?_)
    · replace ho1225 := cond_t hb1237 ho1225
      refine run_skip ?_
      refine at_then ?_
      refine run_seq ?_
      refine run_block ?_
      refine run_seq ?_
      obtain ⟨e1238, ho1225⟩ := chk_some ho1225
      refine run_drawf (fun w_ => Mem w [] w_ [box b1207 60 [.int .i64 x1.fTx, .int .i64 x1.fAt]]) [(0, true), (1, true), (2, true), (3, true), (4, true), (5, true)] mixed rfl rfl (by kernel_rfl) ?_
      replace HM := HM.grow (fr_drew _)
      have hS := Mem.suf (M := []) HM
      refine drwp_take rfl (guard_none rfl) rfl rfl (fun w_ hS_ => (ex_move rfl rfl)) hS ?_
      refine drwp_take rfl (guard_none rfl) rfl rfl (fun w_ hS_ => (ex_move rfl rfl)) hS ?_
      have hc1239 : CellsAt _ (sb p0) (so p0 + (a1230).toNat * 2) [(.int .i64 ((gt x0 a1230).fTx)), (.int .i64 ((gt x0 a1230).fAt))] := rd_plain hp0 e1238
      refine drwp_take rfl (guard_none rfl) rfl rfl (fun w_ hS_ => (ex_indexAddr (d := kRef) rfl rfl rfl Tryz.underlying22 tsz60 hp0 (idx_lo e1238) (idx_hi e1238))) hS ?_
      refine drwp_take rfl (guard_none rfl) rfl rfl (fun w_ hS_ => (ex_loadN (cs := [(.int .i64 ((gt x0 a1230).fTx)), (.int .i64 ((gt x0 a1230).fAt))]) rfl rfl Tryz.underlying60 rfl tsz60 rfl ((hS_.at_ hc1239).sub 0 2 rfl))) hS ?_
      refine drwp_take rfl (guard_none rfl) rfl rfl (fun w_ hS_ => (ex_loadN (cs := [(.int .i64 x1.fTx), (.int .i64 x1.fAt)]) rfl rfl Tryz.underlying60 rfl tsz60 rfl ((hS_.box_at 0 rfl).sub 0 2 rfl))) hS ?_
      refine drwp_take rfl (guard_none rfl) rfl rfl (fun w_ hS_ => (ex_aeql rfl rfl rfl (by kernel_rfl) (eqs60 _ _ _ _ _))) hS ?_
      refine drwp_done ?_
      refine at_then ?_
      refine run_cond (b := ((((gt x0 a1230).fTx) == x1.fTx) && (((gt x0 a1230).fAt) == x1.fAt))) rfl (fun hb1240 => ?_) (fun hb1240 => ?_)
      · replace ho1225 := cond_t hb1240 ho1225
        refine run_seq ?_
        refine run_region rfl ?_
        refine ops_ex rfl (guard_none rfl) rfl rfl (ex_assign rfl rfl) ?_
        refine ops_nil ?_
        refine at_then ?_
        refine run_ret ?_
        refine at_block_ret ?_
        refine at_then_ret ?_
        refine at_then_ret ?_
        refine at_block_ret ?_
        refine at_then_ret ?_
        replace HM := (HM.front 0 rfl rfl).drop
        have hR := Option.some.inj ho1225
        subst hR
        have hT := thn_inl H
        have hR := Option.some.inj hT
        subst hR
        exact at_ret1 rfl rfl ⟨_, rfl, rfl, HM⟩
      · replace ho1225 := cond_f hb1240 ho1225
        refine run_skip ?_
        refine at_block ?_
        refine at_then ?_
        refine run_region rfl ?_
        refine ops_ex rfl (guard_none rfl) rfl rfl (ex_move rfl rfl) ?_
        refine ops_ex rfl (guard_none rfl) rfl rfl (ex_add rfl rfl rfl) ?_
        refine ops_ex rfl (guard_none rfl) rfl rfl (ex_assign rfl rfl) ?_
        refine ops_nil ?_
        exact at_again k1235 (ρ1 := [(0, p0), (3, .pointer (some ⟨b1207, 0, none⟩)), (5, .int .i64 (wrap64 (a1230 + 1)))]) (Nat.lt_succ_self _) ⟨_, ho1225, rfl, HM⟩ (Sub.cons rfl (Sub.cons rfl (Sub.cons rfl Sub.nil)))
    · replace ho1225 := cond_f hb1237 ho1225
      refine run_exit ?_
      refine at_then_exit ?_
      refine at_then_exit ?_
      refine at_block_exit ?_
      replace HM := (HM.front 0 rfl rfl).drop
      exact at_mid (ρ' := []) ⟨(Option.some.inj ho1225), rfl, HM⟩ Sub.nil
  · rintro _ w1241 ⟨rfl, rfl, HM⟩
    replace H := (thn_inr H)
    refine run_seq ?_
    refine run_region rfl ?_
    refine ops_ex rfl (guard_none rfl) rfl rfl (ex_assign rfl rfl) ?_
    refine ops_nil ?_
    refine at_then ?_
    refine run_ret ?_
    have hR := Option.some.inj H
    subst hR
    exact at_ret1 rfl rfl ⟨_, rfl, rfl, HM⟩

def spec_l3Outs.l0 (x0 : Tx) : Nat → Int → Option (Int ⊕ Unit)
  | 0, _ => none
  | k + 1, a1453 => (bif (decide (a1453 < (x0.fOuts.length : Int))) then (chk (idxOk a1453 x0.fOuts.length) ((spec_l1In.f k ((gt x0.fOuts a1453).fValue) 1 1000000).bind fun t1490 => (bif !t1490 then some (.inl 3) else (chk (idxOk a1453 x0.fOuts.length) ((spec_l2Fault.f k ((gt x0.fOuts a1453).fRule)).bind fun t1498 => (bif (t1498 != 0) then some (.inl t1498) else spec_l3Outs.l0 x0 k (wrap64 (a1453 + 1)))))))) else some (.inr ()))
theorem spec_l3Outs.l0_z (x0 : Tx) (a1453 : Int) : spec_l3Outs.l0 x0 0 a1453 = none := rfl
theorem spec_l3Outs.l0_s (x0 : Tx) (k : Nat) (a1453 : Int) : spec_l3Outs.l0 x0 (k + 1) a1453 = (bif (decide (a1453 < (x0.fOuts.length : Int))) then (chk (idxOk a1453 x0.fOuts.length) ((spec_l1In.f k ((gt x0.fOuts a1453).fValue) 1 1000000).bind fun t1490 => (bif !t1490 then some (.inl 3) else (chk (idxOk a1453 x0.fOuts.length) ((spec_l2Fault.f k ((gt x0.fOuts a1453).fRule)).bind fun t1498 => (bif (t1498 != 0) then some (.inl t1498) else spec_l3Outs.l0 x0 k (wrap64 (a1453 + 1)))))))) else some (.inr ())) := rfl
def spec_l3Outs.f (k : Nat) (x0 : Tx) : Option Int := ((spec_l3Outs.l0 x0 k 0).bind fun o1429 => thn o1429 (fun r => some r) (fun _ => (chk (!(x0.fKind == 1) || (idxOk (0 : Int) x0.fOuts.length)) (bif ((x0.fKind == 1) && (decide (((gt x0.fOuts (0 : Int)).fValue) < 100))) then some 8 else some 0))))
theorem spec_l3Outs.calls {k : Nat} {x0 : Tx} {b0 f0 : Nat} {p0_0 : Value} {p0_1 : Value} {w : World} (hc0 : CellsAt w b0 f0 [.int .i64 x0.fKind, .int .i64 x0.fMember, p0_0, p0_1]) (hp0_0 : RdS kRef w p0_0 x0.fIns) (hp0_1 : RdS kOut w p0_1 x0.fOuts) {r : Int} (H : spec_l3Outs.f k x0 = some r) :
    Calls Tryz.prog 40 ([.pointer (some ⟨b0, f0, none⟩)] : List Value).toArray w (fun e w_ => ∃ v, e = .returned v ∧ v = (.int .i64 r) ∧ Mem w [] w_ []) := by
  have HM := Mem.start w
  refine calls_run (N := 50) Tryz.func40 rfl rfl rfl rfl ?_
  unfold spec_l3Outs.f at H
  refine run_seq ?_
  refine run_region rfl ?_
  refine ops_ex rfl (guard_none rfl) rfl rfl (ex_assign rfl rfl) ?_
  refine ops_nil ?_
  refine at_then ?_
  obtain ⟨o1429, ho1430, H⟩ := bind_some H
  refine run_mid (fun ρ_ w_ => Sum.inr () = o1429 ∧ ρ_ = [(0, .pointer (some ⟨b0, f0, none⟩))] ∧ Mem w [] w_ []) ?_ ?_
  · skip
    refine run_seq ?_
    refine run_region rfl ?_
    refine ops_ex rfl (guard_none rfl) rfl rfl (ex_assign rfl rfl) ?_
    refine ops_nil ?_
    refine at_then ?_
    refine run_block ?_
    refine run_loop (fun k_ ρ_ w_ => ∃ a1453 : Int, spec_l3Outs.l0 x0 k_ a1453 = some o1429 ∧ ρ_ = [(0, .pointer (some ⟨b0, f0, none⟩)), (3, .int .i64 a1453)] ∧ Mem w [] w_ []) k (ρ1 := [(0, .pointer (some ⟨b0, f0, none⟩)), (3, .int .i64 0)]) ⟨_, ho1430, rfl, HM⟩ (Sub.cons rfl (Sub.cons rfl Sub.nil)) ?_
    clear HM ho1430
    rintro k1476 _ w1477 ⟨a1453, ho1430, rfl, HM⟩
    obtain _ | k1476 := k1476
    · exact nomatch ((spec_l3Outs.l0_z x0 a1453).symm.trans ho1430)
    replace ho1430 := (spec_l3Outs.l0_s x0 k1476 a1453).symm.trans ho1430
    refine run_seq ?_
    refine run_seq ?_
    refine run_region rfl ?_
    refine ops_ex rfl (guard_none rfl) rfl rfl (ex_move rfl rfl) ?_
    refine ops_ex rfl (guard_none rfl) rfl rfl (ex_move rfl rfl) ?_
    refine ops_ex rfl (guard_none rfl) rfl rfl (ex_nilCheck rfl rfl) ?_
    refine ops_ex rfl (guard_none rfl) rfl rfl (ex_fieldAddr (off' := f0 + 3) rfl rfl Tryz.underlying25 rfl tsz23 rfl) ?_
    refine ops_ex rfl (guard_none rfl) rfl rfl (ex_load1 rfl rfl Tryz.underlying23 rfl ((HM.at_ hc0) 3 _ rfl)) ?_
    refine ops_ex rfl (guard_none rfl) rfl rfl (ex_len (d := kOut) (xs := x0.fOuts) rfl rfl Tryz.underlying23 hp0_1) ?_
    refine ops_ex rfl (guard_none rfl) rfl rfl (ex_lss rfl rfl rfl) ?_
    refine ops_nil ?_
    refine at_then ?_
    refine run_cond (b := (decide (a1453 < (x0.fOuts.length : Int)))) rfl (fun hb1478 => ?_) (fun hb1478 => ?_)
    · replace ho1430 := cond_t hb1478 ho1430
      refine run_skip ?_
      refine at_then ?_
      refine run_seq ?_
      refine run_block ?_
      refine run_seq ?_
      refine run_seq ?_
      obtain ⟨e1486, ho1430⟩ := chk_some ho1430
      obtain ⟨t1490, h1491, ho1430⟩ := bind_some ho1430
      refine run_region rfl ?_
      refine ops_ex rfl (guard_none rfl) rfl rfl (ex_move rfl rfl) ?_
      refine ops_ex rfl (guard_none rfl) rfl rfl (ex_nilCheck rfl rfl) ?_
      refine ops_ex rfl (guard_none rfl) rfl rfl (ex_fieldAddr (off' := f0 + 3) rfl rfl Tryz.underlying25 rfl tsz23 rfl) ?_
      refine ops_ex rfl (guard_none rfl) rfl rfl (ex_load1 rfl rfl Tryz.underlying23 rfl ((HM.at_ hc0) 3 _ rfl)) ?_
      refine ops_ex rfl (guard_none rfl) rfl rfl (ex_move rfl rfl) ?_
      obtain ⟨kv1488, hc1487, hk1489⟩ : ∃ u, CellsAt _ (sb p0_1) (so p0_1 + (a1453).toNat * 4) [(.int .i64 ((gt x0.fOuts a1453).fValue)), u, (.int .i64 ((gt x0.fOuts a1453).fRule.fNeed)), (.int .i64 ((gt x0.fOuts a1453).fRule.fAfter))] ∧ RdS kInt _ u ((gt x0.fOuts a1453).fRule.fKeys) := rd_with1 hp0_1 e1486
      refine ops_ex rfl (guard_none rfl) rfl rfl (ex_indexAddr (d := kOut) rfl rfl rfl Tryz.underlying23 tsz49 hp0_1 (idx_lo e1486) (idx_hi e1486)) ?_
      refine ops_ex rfl (guard_none rfl) rfl rfl (ex_fieldAddr (off' := so p0_1 + (a1453).toNat * 4) rfl rfl Tryz.underlying49 rfl tsz2 rfl) ?_
      refine ops_ex rfl (guard_none rfl) rfl rfl (ex_load1 rfl rfl Tryz.underlying2 rfl ((HM.at_ hc1487) 0 _ rfl)) ?_
      refine ops_does rfl (guard_none rfl) rfl rfl (does_callk rfl callok36 rfl (spec_l1In.calls (x0 := (gt x0.fOuts a1453).fValue) (x1 := 1) (x2 := 1000000) h1491)) ?_
      rintro _ w1492 ⟨rfl, hn⟩
      replace HM : Mem w [] w1492 [] := HM.call hn
      refine ops_ex rfl (guard_none rfl) rfl rfl (ex_not rfl rfl) ?_
      refine ops_nil ?_
      refine at_then ?_
      refine run_cond (b := !t1490) rfl (fun hb1493 => ?_) (fun hb1493 => ?_)
      · replace ho1430 := cond_t hb1493 ho1430
        refine run_seq ?_
        refine run_region rfl ?_
        refine ops_ex rfl (guard_none rfl) rfl rfl (ex_assign rfl rfl) ?_
        refine ops_nil ?_
        refine at_then ?_
        refine run_ret ?_
        refine at_then_ret ?_
        refine at_block_ret ?_
        refine at_then_ret ?_
        refine at_then_ret ?_
        refine at_block_ret ?_
        refine at_then_ret ?_
        have hR := Option.some.inj ho1430
        subst hR
        have hT := thn_inl H
        have hR := Option.some.inj hT
        subst hR
        exact at_ret1 rfl rfl ⟨_, rfl, rfl, HM⟩
      · replace ho1430 := cond_f hb1493 ho1430
        refine run_skip ?_
        refine at_then ?_
        refine run_seq ?_
        obtain ⟨e1494, ho1430⟩ := chk_some ho1430
        obtain ⟨t1498, h1499, ho1430⟩ := bind_some ho1430
        refine run_region rfl ?_
        refine ops_ex rfl (guard_none rfl) rfl rfl (ex_move rfl rfl) ?_
        refine ops_ex rfl (guard_none rfl) rfl rfl (ex_nilCheck rfl rfl) ?_
        refine ops_ex rfl (guard_none rfl) rfl rfl (ex_fieldAddr (off' := f0 + 3) rfl rfl Tryz.underlying25 rfl tsz23 rfl) ?_
        refine ops_ex rfl (guard_none rfl) rfl rfl (ex_load1 rfl rfl Tryz.underlying23 rfl ((HM.at_ hc0) 3 _ rfl)) ?_
        refine ops_ex rfl (guard_none rfl) rfl rfl (ex_move rfl rfl) ?_
        obtain ⟨kv1496, hc1495, hk1497⟩ : ∃ u, CellsAt _ (sb p0_1) (so p0_1 + (a1453).toNat * 4) [(.int .i64 ((gt x0.fOuts a1453).fValue)), u, (.int .i64 ((gt x0.fOuts a1453).fRule.fNeed)), (.int .i64 ((gt x0.fOuts a1453).fRule.fAfter))] ∧ RdS kInt _ u ((gt x0.fOuts a1453).fRule.fKeys) := rd_with1 hp0_1 e1494
        refine ops_ex rfl (guard_none rfl) rfl rfl (ex_indexAddr (d := kOut) rfl rfl rfl Tryz.underlying23 tsz49 hp0_1 (idx_lo e1494) (idx_hi e1494)) ?_
        refine ops_ex rfl (guard_none rfl) rfl rfl (ex_fieldAddr (off' := so p0_1 + (a1453).toNat * 4 + 1) rfl rfl Tryz.underlying49 rfl tsz44 rfl) ?_
        refine ops_does rfl (guard_none rfl) rfl rfl (does_callk rfl callok35 rfl (spec_l2Fault.calls (x0 := (gt x0.fOuts a1453).fRule) (CellsAt.sub (HM.at_ hc1495) 1 3 rfl) (HM.rd hk1497) h1499)) ?_
        rintro _ w1500 ⟨rfl, hn⟩
        replace HM : Mem w [] w1500 [] := HM.call hn
        refine ops_ex rfl (guard_none rfl) rfl rfl (ex_assign rfl rfl) ?_
        refine ops_nil ?_
        refine at_then ?_
        refine run_seq ?_
        refine run_region rfl ?_
        refine ops_ex rfl (guard_none rfl) rfl rfl (ex_move rfl rfl) ?_
        refine ops_ex rfl (guard_none rfl) rfl rfl (ex_neq rfl rfl rfl) ?_
        refine ops_nil ?_
        refine at_then ?_
        refine run_cond (b := (t1498 != 0)) rfl (fun hb1501 => ?_) (fun hb1501 => ?_)
        · replace ho1430 := cond_t hb1501 ho1430
          refine run_seq ?_
          refine run_region rfl ?_
          refine ops_ex rfl (guard_none rfl) rfl rfl (ex_move rfl rfl) ?_
          refine ops_ex rfl (guard_none rfl) rfl rfl (ex_assign rfl rfl) ?_
          refine ops_nil ?_
          refine at_then ?_
          refine run_ret ?_
          refine at_block_ret ?_
          refine at_then_ret ?_
          refine at_then_ret ?_
          refine at_block_ret ?_
          refine at_then_ret ?_
          have hR := Option.some.inj ho1430
          subst hR
          have hT := thn_inl H
          have hR := Option.some.inj hT
          subst hR
          exact at_ret1 rfl rfl ⟨_, rfl, rfl, HM⟩
        · replace ho1430 := cond_f hb1501 ho1430
          refine run_skip ?_
          refine at_block ?_
          refine at_then ?_
          refine run_region rfl ?_
          refine ops_ex rfl (guard_none rfl) rfl rfl (ex_move rfl rfl) ?_
          refine ops_ex rfl (guard_none rfl) rfl rfl (ex_add rfl rfl rfl) ?_
          refine ops_ex rfl (guard_none rfl) rfl rfl (ex_assign rfl rfl) ?_
          refine ops_nil ?_
          exact at_again k1476 (ρ1 := [(0, .pointer (some ⟨b0, f0, none⟩)), (3, .int .i64 (wrap64 (a1453 + 1)))]) (Nat.lt_succ_self _) ⟨_, ho1430, rfl, HM⟩ (Sub.cons rfl (Sub.cons rfl Sub.nil))
    · replace ho1430 := cond_f hb1478 ho1430
      refine run_exit ?_
      refine at_then_exit ?_
      refine at_then_exit ?_
      refine at_block_exit ?_
      exact at_mid (ρ' := [(0, .pointer (some ⟨b0, f0, none⟩))]) ⟨(Option.some.inj ho1430), rfl, HM⟩ (Sub.cons rfl Sub.nil)
  · rintro _ w1502 ⟨rfl, rfl, HM⟩
    replace H := (thn_inr H)
    refine run_seq ?_
    refine run_seq ?_
    obtain ⟨e1503, H⟩ := chk_some H
    refine run_meet (fun ρ_ w_ => ρ_ = [(49, .bool ((x0.fKind == 1) && (decide (((gt x0.fOuts (0 : Int)).fValue) < 100))))] ∧ Mem w [] w_ []) ?_ ?_
    · skip
      refine run_region rfl ?_
      refine ops_ex rfl (guard_none rfl) rfl rfl (ex_move rfl rfl) ?_
      refine ops_ex rfl (guard_none rfl) rfl rfl (ex_nilCheck rfl rfl) ?_
      refine ops_ex rfl (guard_none rfl) rfl rfl (ex_fieldAddr (off' := f0) rfl rfl Tryz.underlying25 rfl tsz2 rfl) ?_
      refine ops_ex rfl (guard_none rfl) rfl rfl (ex_load1 rfl rfl Tryz.underlying2 rfl ((HM.at_ hc0) 0 _ rfl)) ?_
      refine ops_ex rfl (guard_none rfl) rfl rfl (ex_eql rfl rfl rfl) ?_
      refine ops_ex rfl (guard_none rfl) rfl rfl (ex_move rfl rfl) ?_
      refine bool_cases (x0.fKind == 1) (fun hg1507 => ?_) (fun hg1507 => ?_)
      · skip
        refine ops_ex rfl (guard_on rfl rfl rfl hg1507) rfl rfl (ex_move rfl rfl) ?_
        refine ops_ex rfl (guard_on rfl rfl rfl hg1507) rfl rfl (ex_nilCheck rfl rfl) ?_
        refine ops_ex rfl (guard_on rfl rfl rfl hg1507) rfl rfl (ex_fieldAddr (off' := f0 + 3) rfl rfl Tryz.underlying25 rfl tsz23 rfl) ?_
        refine ops_ex rfl (guard_on rfl rfl rfl hg1507) rfl rfl (ex_load1 rfl rfl Tryz.underlying23 rfl ((HM.at_ hc0) 3 _ rfl)) ?_
        obtain ⟨kv1505, hc1504, hk1506⟩ : ∃ u, CellsAt _ (sb p0_1) (so p0_1 + ((0 : Int)).toNat * 4) [(.int .i64 ((gt x0.fOuts (0 : Int)).fValue)), u, (.int .i64 ((gt x0.fOuts (0 : Int)).fRule.fNeed)), (.int .i64 ((gt x0.fOuts (0 : Int)).fRule.fAfter))] ∧ RdS kInt _ u ((gt x0.fOuts (0 : Int)).fRule.fKeys) := rd_with1 hp0_1 (or_t e1503 hg1507)
        refine ops_ex rfl (guard_on rfl rfl rfl hg1507) rfl rfl (ex_indexAddr (d := kOut) rfl rfl rfl Tryz.underlying23 tsz49 hp0_1 (idx_lo (or_t e1503 hg1507)) (idx_hi (or_t e1503 hg1507))) ?_
        refine ops_ex rfl (guard_on rfl rfl rfl hg1507) rfl rfl (ex_fieldAddr (off' := so p0_1 + ((0 : Int)).toNat * 4) rfl rfl Tryz.underlying49 rfl tsz2 rfl) ?_
        refine ops_ex rfl (guard_on rfl rfl rfl hg1507) rfl rfl (ex_load1 rfl rfl Tryz.underlying2 rfl ((HM.at_ hc1504) 0 _ rfl)) ?_
        refine ops_ex rfl (guard_on rfl rfl rfl hg1507) rfl rfl (ex_lss rfl rfl rfl) ?_
        refine ops_ex (v := .bool ((x0.fKind == 1) && (decide (((gt x0.fOuts (0 : Int)).fValue) < 100)))) rfl (guard_none rfl) rfl rfl (ex_pand_t rfl rfl hg1507 rfl) ?_
        refine ops_nil ?_
        exact at_meet [(49, .bool ((x0.fKind == 1) && (decide (((gt x0.fOuts (0 : Int)).fValue) < 100))))] ⟨rfl, HM⟩ (Sub.cons rfl Sub.nil)
      · skip
        refine ops_off rfl (guard_off rfl rfl rfl hg1507) rfl rfl ?_
        refine ops_off rfl (guard_off rfl rfl rfl hg1507) rfl rfl ?_
        refine ops_off rfl (guard_off rfl rfl rfl hg1507) rfl rfl ?_
        refine ops_off rfl (guard_off rfl rfl rfl hg1507) rfl rfl ?_
        refine ops_off rfl (guard_off rfl rfl rfl hg1507) rfl rfl ?_
        refine ops_off rfl (guard_off rfl rfl rfl hg1507) rfl rfl ?_
        refine ops_off rfl (guard_off rfl rfl rfl hg1507) rfl rfl ?_
        refine ops_off rfl (guard_off rfl rfl rfl hg1507) rfl rfl ?_
        have hg1508 : ((x0.fKind == 1) && (decide (((gt x0.fOuts (0 : Int)).fValue) < 100))) = false := by simp only [hg1507, Bool.and_true, Bool.true_and, Bool.and_false, Bool.false_and, Bool.or_true, Bool.true_or, Bool.or_false, Bool.false_or, Bool.not_true, Bool.not_false, Bool.not_not]
        refine ops_ex (v := .bool ((x0.fKind == 1) && (decide (((gt x0.fOuts (0 : Int)).fValue) < 100)))) rfl (guard_none rfl) rfl rfl (ex_pand_f rfl rfl hg1507) ?_
        refine ops_nil ?_
        exact at_meet [(49, .bool ((x0.fKind == 1) && (decide (((gt x0.fOuts (0 : Int)).fValue) < 100))))] ⟨rfl, HM⟩ (Sub.cons rfl Sub.nil)
    · rintro _ w1509 ⟨rfl, HM⟩
      refine at_then ?_
      refine run_cond (b := ((x0.fKind == 1) && (decide (((gt x0.fOuts (0 : Int)).fValue) < 100)))) rfl (fun hb1510 => ?_) (fun hb1510 => ?_)
      · replace H := cond_t hb1510 H
        refine run_seq ?_
        refine run_region rfl ?_
        refine ops_ex rfl (guard_none rfl) rfl rfl (ex_assign rfl rfl) ?_
        refine ops_nil ?_
        refine at_then ?_
        refine run_ret ?_
        refine at_then_ret ?_
        have hR := Option.some.inj H
        subst hR
        exact at_ret1 rfl rfl ⟨_, rfl, rfl, HM⟩
      · replace H := cond_f hb1510 H
        refine run_skip ?_
        refine at_then ?_
        refine run_seq ?_
        refine run_region rfl ?_
        refine ops_ex rfl (guard_none rfl) rfl rfl (ex_assign rfl rfl) ?_
        refine ops_nil ?_
        refine at_then ?_
        refine run_ret ?_
        have hR := Option.some.inj H
        subst hR
        exact at_ret1 rfl rfl ⟨_, rfl, rfl, HM⟩
end Go.Proofs.YtcpacdbdehphkaaGreatDoor.Zk
