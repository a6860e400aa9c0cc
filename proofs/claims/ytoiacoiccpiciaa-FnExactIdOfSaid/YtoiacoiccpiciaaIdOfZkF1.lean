/- What functions of the program compute, each as a plain function, and that they do. Conditions: as each theorem states them. -/
import Derived.Test.YtoiacoiccpiciaaIdOfZkF0
namespace Go.Proofs.Ytoiacoiccpiciaa.Zk
open Go Go.RowKit Go.IntWalk Go.Proofs
set_option linter.unusedVariables false
set_option linter.unusedSimpArgs false
set_option maxRecDepth 100000
set_option maxHeartbeats 4000000
def spec_IdOf.f (k : Nat) (x0 : Ledger) (x1 : ByteArray) : Option IntResult := ((spec_l1Fault.f k x0).bind fun t929 => (bif (t929 != 0) then some (⟨t929, 0⟩ : IntResult) else ((spec_l1At.f k x0.fTexts x1).bind fun t934 => (bif (t934 == 0) then some (⟨4, 0⟩ : IntResult) else some (⟨0, t934⟩ : IntResult)))))
theorem spec_IdOf.calls {k : Nat} {x0 : Ledger} {x1 : ByteArray} {p0_0 : Value} {p0_1 : Value} {w : World} (hp0_0 : RdS kStr w p0_0 x0.fTexts) (hp0_1 : RdS kSign w p0_1 x0.fSigns) {r : IntResult} (H : spec_IdOf.f k x0 x1 = some r) :
    Calls Try.prog 44 ([.agg #[p0_0, p0_1], .string x1] : List Value).toArray w (fun e w_ => ∃ v, e = .returned v ∧ v = (.agg #[.int .i64 r.fCode, .int .i64 r.fValue]) ∧ Mem w [] w_ []) := by
  have HM := Mem.start w
  refine calls_run (N := 21) Try.func44 rfl rfl rfl rfl ?_
  unfold spec_IdOf.f at H
  refine run_seq ?_
  refine run_region rfl ?_
  refine ops_does rfl (guard_none rfl) rfl rfl (does_box (cs := [p0_0, p0_1]) rfl rfl rfl HM) ?_
  rintro _ w924 ⟨b918, rfl, HM⟩
  refine ops_does rfl (guard_none rfl) rfl rfl (does_alloc (cs := [.int .i64 0, .int .i64 0]) rfl tz55 rfl HM) ?_
  rintro _ w925 ⟨b921, rfl, HM⟩
  refine ops_nil ?_
  refine at_then ?_
  refine run_seq ?_
  refine run_seq ?_
  obtain ⟨t929, h930, H⟩ := bind_some H
  refine run_region rfl ?_
  refine ops_does rfl (guard_none rfl) rfl rfl (does_callk rfl callok101 rfl (spec_l1Fault.calls (x0 := x0) (HM.box_at 1 rfl) (HM.rd hp0_0) (HM.rd hp0_1) h930)) ?_
  rintro _ w931 ⟨rfl, hn⟩
  replace HM : Mem w [] w931 [box b921 55 [.int .i64 0, .int .i64 0], box b918 69 [p0_0, p0_1]] := HM.call hn
  refine ops_ex rfl (guard_none rfl) rfl rfl (ex_assign rfl rfl) ?_
  refine ops_nil ?_
  refine at_then ?_
  refine run_seq ?_
  refine run_region rfl ?_
  refine ops_ex rfl (guard_none rfl) rfl rfl (ex_move rfl rfl) ?_
  refine ops_ex rfl (guard_none rfl) rfl rfl (ex_neq rfl rfl rfl) ?_
  refine ops_nil ?_
  refine at_then ?_
  refine run_cond (b := (t929 != 0)) rfl (fun hb932 => ?_) (fun hb932 => ?_)
  · replace H := cond_t hb932 H
    refine run_seq ?_
    refine run_region rfl ?_
    refine ops_ex rfl (guard_none rfl) rfl rfl (ex_move rfl rfl) ?_
    refine ops_ex rfl (guard_none rfl) rfl rfl (ex_build (cells := #[(.int .i64 t929), (.int .i64 0)]) rfl rfl (by kernel_rfl)) ?_
    refine ops_doesS rfl (guard_none rfl) rfl (does_store (vs := [.int .i64 t929, .int .i64 0]) (cs' := [.int .i64 t929, .int .i64 0]) rfl rfl rfl rfl tsz55 (Ones.int (Ones.int Ones.nil)) rfl rfl HM) ?_
    rintro w933 HM
    refine ops_nil ?_
    refine at_then ?_
    refine run_ret ?_
    refine at_then_ret ?_
    replace HM := (HM.front 1 rfl rfl).drop
    have hcb0 := HM.box_at 0 rfl
    replace HM := (HM.front 0 rfl rfl).drop
    have hR := Option.some.inj H
    subst hR
    exact at_retN rfl rfl Try.underlying55 rfl tsz55 rfl hcb0 ⟨_, rfl, rfl, HM⟩
  · replace H := cond_f hb932 H
    refine run_skip ?_
    refine at_then ?_
    refine run_seq ?_
    obtain ⟨t934, h935, H⟩ := bind_some H
    refine run_region rfl ?_
    refine ops_ex rfl (guard_none rfl) rfl rfl (ex_fieldAddr (off' := 0) rfl rfl Try.underlying69 rfl tsz61 rfl) ?_
    refine ops_ex rfl (guard_none rfl) rfl rfl (ex_load1 rfl rfl Try.underlying61 rfl ((HM.box_at 1 rfl) 0 _ rfl)) ?_
    refine ops_ex rfl (guard_none rfl) rfl rfl (ex_move rfl rfl) ?_
    refine ops_does rfl (guard_none rfl) rfl rfl (does_callk rfl callok102 rfl (spec_l1At.calls (x0 := x0.fTexts) (x1 := x1) (HM.rd hp0_0) h935)) ?_
    rintro _ w936 ⟨rfl, hn⟩
    replace HM : Mem w [] w936 [box b921 55 [.int .i64 0, .int .i64 0], box b918 69 [p0_0, p0_1]] := HM.call hn
    refine ops_ex rfl (guard_none rfl) rfl rfl (ex_assign rfl rfl) ?_
    refine ops_nil ?_
    refine at_then ?_
    refine run_seq ?_
    refine run_seq ?_
    refine run_region rfl ?_
    refine ops_ex rfl (guard_none rfl) rfl rfl (ex_move rfl rfl) ?_
    refine ops_ex rfl (guard_none rfl) rfl rfl (ex_eql rfl rfl rfl) ?_
    refine ops_nil ?_
    refine at_then ?_
    refine run_cond (b := (t934 == 0)) rfl (fun hb937 => ?_) (fun hb937 => ?_)
    · replace H := cond_t hb937 H
      refine run_seq ?_
      refine run_region rfl ?_
      refine ops_ex rfl (guard_none rfl) rfl rfl (ex_build (cells := #[(.int .i64 4), (.int .i64 0)]) rfl rfl (by kernel_rfl)) ?_
      refine ops_doesS rfl (guard_none rfl) rfl (does_store (vs := [.int .i64 4, .int .i64 0]) (cs' := [.int .i64 4, .int .i64 0]) rfl rfl rfl rfl tsz55 (Ones.int (Ones.int Ones.nil)) rfl rfl HM) ?_
      rintro w938 HM
      refine ops_nil ?_
      refine at_then ?_
      refine run_ret ?_
      refine at_then_ret ?_
      replace HM := (HM.front 1 rfl rfl).drop
      have hcb0 := HM.box_at 0 rfl
      replace HM := (HM.front 0 rfl rfl).drop
      have hR := Option.some.inj H
      subst hR
      exact at_retN rfl rfl Try.underlying55 rfl tsz55 rfl hcb0 ⟨_, rfl, rfl, HM⟩
    · replace H := cond_f hb937 H
      refine run_skip ?_
      refine at_then ?_
      refine run_seq ?_
      refine run_region rfl ?_
      refine ops_ex rfl (guard_none rfl) rfl rfl (ex_move rfl rfl) ?_
      refine ops_ex rfl (guard_none rfl) rfl rfl (ex_build (cells := #[(.int .i64 0), (.int .i64 t934)]) rfl rfl (by kernel_rfl)) ?_
      refine ops_doesS rfl (guard_none rfl) rfl (does_store (vs := [.int .i64 0, .int .i64 t934]) (cs' := [.int .i64 0, .int .i64 t934]) rfl rfl rfl rfl tsz55 (Ones.int (Ones.int Ones.nil)) rfl rfl HM) ?_
      rintro w939 HM
      refine ops_nil ?_
      refine at_then ?_
      refine run_ret ?_
      replace HM := (HM.front 1 rfl rfl).drop
      have hcb0 := HM.box_at 0 rfl
      replace HM := (HM.front 0 rfl rfl).drop
      have hR := Option.some.inj H
      subst hR
      exact at_retN rfl rfl Try.underlying55 rfl tsz55 rfl hcb0 ⟨_, rfl, rfl, HM⟩

def impl_within.f (k : Nat) (x0 : Int) (x1 : Int) (x2 : Int) : Option Bool := some ((decide (x1 ≤ x0)) && (decide (x0 ≤ x2)))
theorem impl_within.calls {k : Nat} {x0 : Int} {x1 : Int} {x2 : Int}  {w : World}  {r : Bool} (H : impl_within.f k x0 x1 x2 = some r) :
    Calls Try.prog 81 ([.int .i64 x0, .int .i64 x1, .int .i64 x2] : List Value).toArray w (fun e w_ => ∃ v, e = .returned v ∧ v = (.bool r) ∧ Mem w [] w_ []) := by
  have HM := Mem.start w
  refine calls_run (N := 15) Try.func81 rfl rfl rfl rfl ?_
  unfold impl_within.f at H
  refine run_seq ?_
  refine run_region rfl ?_
  refine ops_ex rfl (guard_none rfl) rfl rfl (ex_assign rfl rfl) ?_
  refine ops_nil ?_
  refine at_then ?_
  refine run_seq ?_
  refine run_meet (fun ρ_ w_ => ρ_ = [(6, .bool ((decide (x1 ≤ x0)) && (decide (x0 ≤ x2))))] ∧ Mem w [] w_ []) ?_ ?_
  · skip
    refine run_region rfl ?_
    refine ops_ex rfl (guard_none rfl) rfl rfl (ex_move rfl rfl) ?_
    refine ops_ex rfl (guard_none rfl) rfl rfl (ex_move rfl rfl) ?_
    refine ops_ex rfl (guard_none rfl) rfl rfl (ex_geq rfl rfl rfl) ?_
    refine ops_ex rfl (guard_none rfl) rfl rfl (ex_move rfl rfl) ?_
    refine bool_cases (decide (x1 ≤ x0)) (fun hg968 => ?_) (fun hg968 => ?_)
    · skip
      refine ops_ex rfl (guard_on rfl rfl rfl hg968) rfl rfl (ex_move rfl rfl) ?_
      refine ops_ex rfl (guard_on rfl rfl rfl hg968) rfl rfl (ex_move rfl rfl) ?_
      refine ops_ex rfl (guard_on rfl rfl rfl hg968) rfl rfl (ex_leq rfl rfl rfl) ?_
      refine ops_ex (v := .bool ((decide (x1 ≤ x0)) && (decide (x0 ≤ x2)))) rfl (guard_none rfl) rfl rfl (ex_pand_t rfl rfl hg968 rfl) ?_
      refine ops_ex rfl (guard_none rfl) rfl rfl (ex_assign rfl rfl) ?_
      refine ops_nil ?_
      exact at_meet [(6, .bool ((decide (x1 ≤ x0)) && (decide (x0 ≤ x2))))] ⟨rfl, HM⟩ (Sub.cons rfl Sub.nil)
    · skip
      refine ops_off rfl (guard_off rfl rfl rfl hg968) rfl rfl ?_
      refine ops_off rfl (guard_off rfl rfl rfl hg968) rfl rfl ?_
      refine ops_off rfl (guard_off rfl rfl rfl hg968) rfl rfl ?_
      have hg969 : ((decide (x1 ≤ x0)) && (decide (x0 ≤ x2))) = false := by simp only [hg968, Bool.and_true, Bool.true_and, Bool.and_false, Bool.false_and, Bool.or_true, Bool.true_or, Bool.or_false, Bool.false_or, Bool.not_true, Bool.not_false, Bool.not_not]
      refine ops_ex (v := .bool ((decide (x1 ≤ x0)) && (decide (x0 ≤ x2)))) rfl (guard_none rfl) rfl rfl (ex_pand_f rfl rfl hg968) ?_
      refine ops_ex rfl (guard_none rfl) rfl rfl (ex_assign rfl rfl) ?_
      refine ops_nil ?_
      exact at_meet [(6, .bool ((decide (x1 ≤ x0)) && (decide (x0 ≤ x2))))] ⟨rfl, HM⟩ (Sub.cons rfl Sub.nil)
  · rintro _ w970 ⟨rfl, HM⟩
    refine at_then ?_
    refine run_ret ?_
    have hR := Option.some.inj H
    subst hR
    exact at_ret1 rfl rfl ⟨_, rfl, rfl, HM⟩

def impl_isText.f (k : Nat) (x0 : ByteArray) : Option Bool := ((impl_within.f k (x0.size : Int) 1 300).bind fun t973 => some t973)
theorem impl_isText.calls {k : Nat} {x0 : ByteArray}  {w : World}  {r : Bool} (H : impl_isText.f k x0 = some r) :
    Calls Try.prog 149 ([.string x0] : List Value).toArray w (fun e w_ => ∃ v, e = .returned v ∧ v = (.bool r) ∧ Mem w [] w_ []) := by
  have HM := Mem.start w
  refine calls_run (N := 6) Try.func149 rfl rfl rfl rfl ?_
  unfold impl_isText.f at H
  refine run_seq ?_
  refine run_region rfl ?_
  refine ops_ex rfl (guard_none rfl) rfl rfl (ex_assign rfl rfl) ?_
  refine ops_nil ?_
  refine at_then ?_
  refine run_seq ?_
  obtain ⟨t973, h974, H⟩ := bind_some H
  refine run_region rfl ?_
  refine ops_ex rfl (guard_none rfl) rfl rfl (ex_move rfl rfl) ?_
  refine ops_ex rfl (guard_none rfl) rfl rfl (ex_strlen rfl rfl Try.underlying9) ?_
  refine ops_does rfl (guard_none rfl) rfl rfl (does_callk rfl callok81 rfl (impl_within.calls (x0 := (x0.size : Int)) (x1 := 1) (x2 := 300) h974)) ?_
  rintro _ w975 ⟨rfl, hn⟩
  replace HM : Mem w [] w975 [] := HM.call hn
  refine ops_ex rfl (guard_none rfl) rfl rfl (ex_assign rfl rfl) ?_
  refine ops_nil ?_
  refine at_then ?_
  refine run_ret ?_
  have hR := Option.some.inj H
  subst hR
  exact at_ret1 rfl rfl ⟨_, rfl, rfl, HM⟩

def slices_Index_string.l0 (x0 : List ByteArray) (x1 : ByteArray) : Nat → Int → Option (Int ⊕ Unit)
  | 0, _ => none
  | k + 1, a1020 => (bif (decide (a1020 < (x0.length : Int))) then (chk (idxOk a1020 x0.length) (bif (sEq x1 (gt x0 a1020)) then some (.inl a1020) else slices_Index_string.l0 x0 x1 k (wrap64 (a1020 + 1)))) else some (.inr ()))
theorem slices_Index_string.l0_z (x0 : List ByteArray) (x1 : ByteArray) (a1020 : Int) : slices_Index_string.l0 x0 x1 0 a1020 = none := rfl
theorem slices_Index_string.l0_s (x0 : List ByteArray) (x1 : ByteArray) (k : Nat) (a1020 : Int) : slices_Index_string.l0 x0 x1 (k + 1) a1020 = (bif (decide (a1020 < (x0.length : Int))) then (chk (idxOk a1020 x0.length) (bif (sEq x1 (gt x0 a1020)) then some (.inl a1020) else slices_Index_string.l0 x0 x1 k (wrap64 (a1020 + 1)))) else some (.inr ())) := rfl
def slices_Index_string.f (k : Nat) (x0 : List ByteArray) (x1 : ByteArray) : Option Int := ((slices_Index_string.l0 x0 x1 k 0).bind fun o1014 => thn o1014 (fun r => some r) (fun _ => some (-1)))
theorem slices_Index_string.calls {k : Nat} {x0 : List ByteArray} {x1 : ByteArray} {p0 : Value} {w : World} (hp0 : RdS kStr w p0 x0) {r : Int} (H : slices_Index_string.f k x0 x1 = some r) :
    Calls Try.prog 152 ([p0, .string x1] : List Value).toArray w (fun e w_ => ∃ v, e = .returned v ∧ v = (.int .i64 r) ∧ Mem w [] w_ []) := by
  have HM := Mem.start w
  refine calls_run (N := 19) Try.func152 rfl rfl rfl rfl ?_
  unfold slices_Index_string.f at H
  refine run_seq ?_
  refine run_region rfl ?_
  refine ops_ex rfl (guard_none rfl) rfl rfl (ex_assign rfl rfl) ?_
  refine ops_nil ?_
  refine at_then ?_
  obtain ⟨o1014, ho1015, H⟩ := bind_some H
  refine run_mid (fun ρ_ w_ => Sum.inr () = o1014 ∧ ρ_ = [] ∧ Mem w [] w_ []) ?_ ?_
  · skip
    refine run_seq ?_
    refine run_region rfl ?_
    refine ops_ex rfl (guard_none rfl) rfl rfl (ex_move rfl rfl) ?_
    refine ops_ex rfl (guard_none rfl) rfl rfl (ex_len (d := kStr) (xs := x0) rfl rfl Try.underlying61 hp0) ?_
    refine ops_ex rfl (guard_none rfl) rfl rfl (ex_move rfl rfl) ?_
    refine ops_nil ?_
    refine at_then ?_
    refine run_block ?_
    refine run_loop (fun k_ ρ_ w_ => ∃ a1020 : Int, slices_Index_string.l0 x0 x1 k_ a1020 = some o1014 ∧ ρ_ = [(0, p0), (1, .string x1), (7, .int .i64 (x0.length : Int)), (8, .int .i64 a1020)] ∧ Mem w [] w_ []) k (ρ1 := [(0, p0), (1, .string x1), (7, .int .i64 (x0.length : Int)), (8, .int .i64 0)]) ⟨_, ho1015, rfl, HM⟩ (Sub.cons rfl (Sub.cons rfl (Sub.cons rfl (Sub.cons rfl Sub.nil)))) ?_
    clear HM ho1015
    rintro k1025 _ w1026 ⟨a1020, ho1015, rfl, HM⟩
    obtain _ | k1025 := k1025
    · exact nomatch ((slices_Index_string.l0_z x0 x1 a1020).symm.trans ho1015)
    replace ho1015 := (slices_Index_string.l0_s x0 x1 k1025 a1020).symm.trans ho1015
    refine run_seq ?_
    refine run_region rfl ?_
    refine ops_ex rfl (guard_none rfl) rfl rfl (ex_lss rfl rfl rfl) ?_
    refine ops_nil ?_
    refine at_then ?_
    refine run_seq ?_
    refine run_cond (b := (decide (a1020 < (x0.length : Int)))) rfl (fun hb1027 => ?_) (fun hb1027 => ?_)
    · replace ho1015 := cond_t hb1027 ho1015
      refine run_skip ?_
      refine at_then ?_
      refine run_seq ?_
      refine run_block ?_
      refine run_seq ?_
      refine run_region rfl ?_
      refine ops_ex rfl (guard_none rfl) rfl rfl (ex_move rfl rfl) ?_
      refine ops_ex rfl (guard_none rfl) rfl rfl (ex_assign rfl rfl) ?_
      refine ops_nil ?_
      refine at_then ?_
      refine run_seq ?_
      obtain ⟨e1028, ho1015⟩ := chk_some ho1015
      refine run_region rfl ?_
      refine ops_ex rfl (guard_none rfl) rfl rfl (ex_move rfl rfl) ?_
      refine ops_ex rfl (guard_none rfl) rfl rfl (ex_move rfl rfl) ?_
      refine ops_ex rfl (guard_none rfl) rfl rfl (ex_move rfl rfl) ?_
      have hc1029 : CellsAt _ (sb p0) (so p0 + (a1020).toNat * 1) [(.string (gt x0 a1020))] := rd_plain hp0 e1028
      refine ops_ex rfl (guard_none rfl) rfl rfl (ex_indexAddr (d := kStr) rfl rfl rfl Try.underlying61 tsz9 hp0 (idx_lo e1028) (idx_hi e1028)) ?_
      refine ops_ex rfl (guard_none rfl) rfl rfl (ex_load1 rfl rfl Try.underlying9 rfl ((HM.at_ hc1029) 0 _ rfl)) ?_
      refine ops_ex rfl (guard_none rfl) rfl rfl (ex_seql rfl rfl rfl) ?_
      refine ops_nil ?_
      refine at_then ?_
      refine run_cond (b := (sEq x1 (gt x0 a1020))) rfl (fun hb1030 => ?_) (fun hb1030 => ?_)
      · replace ho1015 := cond_t hb1030 ho1015
        refine run_seq ?_
        refine run_region rfl ?_
        refine ops_ex rfl (guard_none rfl) rfl rfl (ex_move rfl rfl) ?_
        refine ops_ex rfl (guard_none rfl) rfl rfl (ex_assign rfl rfl) ?_
        refine ops_nil ?_
        refine at_then ?_
        refine run_ret ?_
        refine at_block_ret ?_
        refine at_then_ret ?_
        refine at_then_ret ?_
        refine at_block_ret ?_
        refine at_then_ret ?_
        have hR := Option.some.inj ho1015
        subst hR
        have hT := thn_inl H
        have hR := Option.some.inj hT
        subst hR
        exact at_ret1 rfl rfl ⟨_, rfl, rfl, HM⟩
      · replace ho1015 := cond_f hb1030 ho1015
        refine run_skip ?_
        refine at_block ?_
        refine at_then ?_
        refine run_region rfl ?_
        refine ops_ex rfl (guard_none rfl) rfl rfl (ex_add rfl rfl rfl) ?_
        refine ops_ex rfl (guard_none rfl) rfl rfl (ex_move rfl rfl) ?_
        refine ops_nil ?_
        exact at_again k1025 (ρ1 := [(0, p0), (1, .string x1), (7, .int .i64 (x0.length : Int)), (8, .int .i64 (wrap64 (a1020 + 1)))]) (Nat.lt_succ_self _) ⟨_, ho1015, rfl, HM⟩ (Sub.cons rfl (Sub.cons rfl (Sub.cons rfl (Sub.cons rfl Sub.nil))))
    · replace ho1015 := cond_f hb1027 ho1015
      refine run_exit ?_
      refine at_then_exit ?_
      refine at_then_exit ?_
      refine at_block_exit ?_
      exact at_mid (ρ' := []) ⟨(Option.some.inj ho1015), rfl, HM⟩ Sub.nil
  · rintro _ w1031 ⟨rfl, rfl, HM⟩
    replace H := (thn_inr H)
    refine run_seq ?_
    refine run_region rfl ?_
    refine ops_ex rfl (guard_none rfl) rfl rfl (ex_assign rfl rfl) ?_
    refine ops_nil ?_
    refine at_then ?_
    refine run_ret ?_
    have hR := Option.some.inj H
    subst hR
    exact at_ret1 rfl rfl ⟨_, rfl, rfl, HM⟩

def slices_Contains_string.f (k : Nat) (x0 : List ByteArray) (x1 : ByteArray) : Option Bool := ((slices_Index_string.f k x0 x1).bind fun t1034 => some (decide (0 ≤ t1034)))
theorem slices_Contains_string.calls {k : Nat} {x0 : List ByteArray} {x1 : ByteArray} {p0 : Value} {w : World} (hp0 : RdS kStr w p0 x0) {r : Bool} (H : slices_Contains_string.f k x0 x1 = some r) :
    Calls Try.prog 150 ([p0, .string x1] : List Value).toArray w (fun e w_ => ∃ v, e = .returned v ∧ v = (.bool r) ∧ Mem w [] w_ []) := by
  have HM := Mem.start w
  refine calls_run (N := 9) Try.func150 rfl rfl rfl rfl ?_
  unfold slices_Contains_string.f at H
  refine run_seq ?_
  refine run_region rfl ?_
  refine ops_ex rfl (guard_none rfl) rfl rfl (ex_assign rfl rfl) ?_
  refine ops_nil ?_
  refine at_then ?_
  refine run_seq ?_
  obtain ⟨t1034, h1035, H⟩ := bind_some H
  refine run_region rfl ?_
  refine ops_ex rfl (guard_none rfl) rfl rfl (ex_move rfl rfl) ?_
  refine ops_ex rfl (guard_none rfl) rfl rfl (ex_move rfl rfl) ?_
  refine ops_does rfl (guard_none rfl) rfl rfl (does_callk rfl callok152 rfl (slices_Index_string.calls (x0 := x0) (x1 := x1) (HM.rd hp0) h1035)) ?_
  rintro _ w1036 ⟨rfl, hn⟩
  replace HM : Mem w [] w1036 [] := HM.call hn
  refine ops_ex rfl (guard_none rfl) rfl rfl (ex_geq rfl rfl rfl) ?_
  refine ops_ex rfl (guard_none rfl) rfl rfl (ex_assign rfl rfl) ?_
  refine ops_nil ?_
  refine at_then ?_
  refine run_ret ?_
  have hR := Option.some.inj H
  subst hR
  exact at_ret1 rfl rfl ⟨_, rfl, rfl, HM⟩

def impl_isKey.f (k : Nat) (x0 : Int) : Option Bool := ((impl_within.f k x0 1 999).bind fun t1083 => some t1083)
theorem impl_isKey.calls {k : Nat} {x0 : Int}  {w : World}  {r : Bool} (H : impl_isKey.f k x0 = some r) :
    Calls Try.prog 86 ([.int .i64 x0] : List Value).toArray w (fun e w_ => ∃ v, e = .returned v ∧ v = (.bool r) ∧ Mem w [] w_ []) := by
  have HM := Mem.start w
  refine calls_run (N := 5) Try.func86 rfl rfl rfl rfl ?_
  unfold impl_isKey.f at H
  refine run_seq ?_
  refine run_region rfl ?_
  refine ops_ex rfl (guard_none rfl) rfl rfl (ex_assign rfl rfl) ?_
  refine ops_nil ?_
  refine at_then ?_
  refine run_seq ?_
  obtain ⟨t1083, h1084, H⟩ := bind_some H
  refine run_region rfl ?_
  refine ops_ex rfl (guard_none rfl) rfl rfl (ex_move rfl rfl) ?_
  refine ops_does rfl (guard_none rfl) rfl rfl (does_callk rfl callok81 rfl (impl_within.calls (x0 := x0) (x1 := 1) (x2 := 999) h1084)) ?_
  rintro _ w1085 ⟨rfl, hn⟩
  replace HM : Mem w [] w1085 [] := HM.call hn
  refine ops_ex rfl (guard_none rfl) rfl rfl (ex_assign rfl rfl) ?_
  refine ops_nil ?_
  refine at_then ?_
  refine run_ret ?_
  have hR := Option.some.inj H
  subst hR
  exact at_ret1 rfl rfl ⟨_, rfl, rfl, HM⟩

def slices_Index_impl_Sign.l0 (x0 : List Sign) (x1 : Sign) : Nat → Int → Option (Int ⊕ Unit)
  | 0, _ => none
  | k + 1, a1144 => (bif (decide (a1144 < (x0.length : Int))) then (chk (idxOk a1144 x0.length) (bif ((x1.fKey == ((gt x0 a1144).fKey)) && (x1.fId == ((gt x0 a1144).fId))) then some (.inl a1144) else slices_Index_impl_Sign.l0 x0 x1 k (wrap64 (a1144 + 1)))) else some (.inr ()))
theorem slices_Index_impl_Sign.l0_z (x0 : List Sign) (x1 : Sign) (a1144 : Int) : slices_Index_impl_Sign.l0 x0 x1 0 a1144 = none := rfl
theorem slices_Index_impl_Sign.l0_s (x0 : List Sign) (x1 : Sign) (k : Nat) (a1144 : Int) : slices_Index_impl_Sign.l0 x0 x1 (k + 1) a1144 = (bif (decide (a1144 < (x0.length : Int))) then (chk (idxOk a1144 x0.length) (bif ((x1.fKey == ((gt x0 a1144).fKey)) && (x1.fId == ((gt x0 a1144).fId))) then some (.inl a1144) else slices_Index_impl_Sign.l0 x0 x1 k (wrap64 (a1144 + 1)))) else some (.inr ())) := rfl
def slices_Index_impl_Sign.f (k : Nat) (x0 : List Sign) (x1 : Sign) : Option Int := ((slices_Index_impl_Sign.l0 x0 x1 k 0).bind fun o1138 => thn o1138 (fun r => some r) (fun _ => some (-1)))
theorem slices_Index_impl_Sign.calls {k : Nat} {x0 : List Sign} {x1 : Sign} {p0 : Value} {w : World} (hp0 : RdS kSign w p0 x0) {r : Int} (H : slices_Index_impl_Sign.f k x0 x1 = some r) :
    Calls Try.prog 167 ([p0, .agg #[(.int .i64 x1.fKey), (.int .i64 x1.fId)]] : List Value).toArray w (fun e w_ => ∃ v, e = .returned v ∧ v = (.int .i64 r) ∧ Mem w [] w_ []) := by
  have HM := Mem.start w
  refine calls_run (N := 19) Try.func167 rfl rfl rfl rfl ?_
  unfold slices_Index_impl_Sign.f at H
  refine run_seq ?_
  refine run_region rfl ?_
  refine ops_does rfl (guard_none rfl) rfl rfl (does_box (cs := [.int .i64 x1.fKey, .int .i64 x1.fId]) rfl rfl rfl HM) ?_
  rintro _ w1124 ⟨b1121, rfl, HM⟩
  refine ops_ex rfl (guard_none rfl) rfl rfl (ex_assign rfl rfl) ?_
  refine ops_nil ?_
  refine at_then ?_
  obtain ⟨o1138, ho1139, H⟩ := bind_some H
  refine run_mid (fun ρ_ w_ => Sum.inr () = o1138 ∧ ρ_ = [] ∧ Mem w [] w_ []) ?_ ?_
  · skip
    refine run_seq ?_
    refine run_region rfl ?_
    refine ops_ex rfl (guard_none rfl) rfl rfl (ex_move rfl rfl) ?_
    refine ops_ex rfl (guard_none rfl) rfl rfl (ex_len (d := kSign) (xs := x0) rfl rfl Try.underlying67 hp0) ?_
    refine ops_ex rfl (guard_none rfl) rfl rfl (ex_move rfl rfl) ?_
    refine ops_nil ?_
    refine at_then ?_
    refine run_block ?_
    refine run_loop (fun k_ ρ_ w_ => ∃ a1144 : Int, slices_Index_impl_Sign.l0 x0 x1 k_ a1144 = some o1138 ∧ ρ_ = [(0, p0), (3, .pointer (some ⟨b1121, 0, none⟩)), (7, .int .i64 (x0.length : Int)), (8, .int .i64 a1144)] ∧ Mem w [] w_ [box b1121 171 [.int .i64 x1.fKey, .int .i64 x1.fId]]) k (ρ1 := [(0, p0), (3, .pointer (some ⟨b1121, 0, none⟩)), (7, .int .i64 (x0.length : Int)), (8, .int .i64 0)]) ⟨_, ho1139, rfl, HM⟩ (Sub.cons rfl (Sub.cons rfl (Sub.cons rfl (Sub.cons rfl Sub.nil)))) ?_
    clear HM ho1139
    rintro k1149 _ w1150 ⟨a1144, ho1139, rfl, HM⟩
    obtain _ | k1149 := k1149
    · exact nomatch ((slices_Index_impl_Sign.l0_z x0 x1 a1144).symm.trans ho1139)
    replace ho1139 := (slices_Index_impl_Sign.l0_s x0 x1 k1149 a1144).symm.trans ho1139
    refine run_seq ?_
    refine run_region rfl ?_
    refine ops_ex rfl (guard_none rfl) rfl rfl (ex_lss rfl rfl rfl) ?_
    refine ops_nil ?_
    refine at_then ?_
    refine run_seq ?_
    refine run_cond (b := (decide (a1144 < (x0.length : Int)))) rfl (fun hb1151 => ?_) (fun hb1151 => ?_)
    · replace ho1139 := cond_t hb1151 ho1139
      refine run_skip ?_
      refine at_then ?_
      refine run_seq ?_
      refine run_block ?_
      refine run_seq ?_
      refine run_region rfl ?_
      refine ops_ex rfl (guard_none rfl) rfl rfl (ex_move rfl rfl) ?_
      refine ops_ex rfl (guard_none rfl) rfl rfl (ex_assign rfl rfl) ?_
      refine ops_nil ?_
      refine at_then ?_
      refine run_seq ?_
      obtain ⟨e1152, ho1139⟩ := chk_some ho1139
      refine run_drawf (fun w_ => Mem w [] w_ [box b1121 171 [.int .i64 x1.fKey, .int .i64 x1.fId]]) [(0, true), (1, true), (2, true), (3, true), (4, true), (5, true)] mixed rfl rfl (by kernel_rfl) ?_
      replace HM := HM.grow (fr_drew _)
      have hS := Mem.suf (M := []) HM
      refine drwp_take rfl (guard_none rfl) rfl rfl (fun w_ hS_ => (ex_loadN (cs := [(.int .i64 x1.fKey), (.int .i64 x1.fId)]) rfl rfl Try.underlying171 rfl tsz171 rfl ((hS_.box_at 0 rfl).sub 0 2 rfl))) hS ?_
      refine drwp_take rfl (guard_none rfl) rfl rfl (fun w_ hS_ => (ex_move rfl rfl)) hS ?_
      refine drwp_take rfl (guard_none rfl) rfl rfl (fun w_ hS_ => (ex_move rfl rfl)) hS ?_
      have hc1153 : CellsAt _ (sb p0) (so p0 + (a1144).toNat * 2) [(.int .i64 ((gt x0 a1144).fKey)), (.int .i64 ((gt x0 a1144).fId))] := rd_plain hp0 e1152
      refine drwp_take rfl (guard_none rfl) rfl rfl (fun w_ hS_ => (ex_indexAddr (d := kSign) rfl rfl rfl Try.underlying67 tsz171 hp0 (idx_lo e1152) (idx_hi e1152))) hS ?_
      refine drwp_take rfl (guard_none rfl) rfl rfl (fun w_ hS_ => (ex_loadN (cs := [(.int .i64 ((gt x0 a1144).fKey)), (.int .i64 ((gt x0 a1144).fId))]) rfl rfl Try.underlying171 rfl tsz171 rfl ((hS_.at_ hc1153).sub 0 2 rfl))) hS ?_
      refine drwp_take rfl (guard_none rfl) rfl rfl (fun w_ hS_ => (ex_aeql rfl rfl rfl (by kernel_rfl) (eqs171 _ _ _ _ _))) hS ?_
      refine drwp_done ?_
      refine at_then ?_
      refine run_cond (b := ((x1.fKey == ((gt x0 a1144).fKey)) && (x1.fId == ((gt x0 a1144).fId)))) rfl (fun hb1154 => ?_) (fun hb1154 => ?_)
      · replace ho1139 := cond_t hb1154 ho1139
        refine run_seq ?_
        refine run_region rfl ?_
        refine ops_ex rfl (guard_none rfl) rfl rfl (ex_move rfl rfl) ?_
        refine ops_ex rfl (guard_none rfl) rfl rfl (ex_assign rfl rfl) ?_
        refine ops_nil ?_
        refine at_then ?_
        refine run_ret ?_
        refine at_block_ret ?_
        refine at_then_ret ?_
        refine at_then_ret ?_
        refine at_block_ret ?_
        refine at_then_ret ?_
        replace HM := (HM.front 0 rfl rfl).drop
        have hR := Option.some.inj ho1139
        subst hR
        have hT := thn_inl H
        have hR := Option.some.inj hT
        subst hR
        exact at_ret1 rfl rfl ⟨_, rfl, rfl, HM⟩
      · replace ho1139 := cond_f hb1154 ho1139
        refine run_skip ?_
        refine at_block ?_
        refine at_then ?_
        refine run_region rfl ?_
        refine ops_ex rfl (guard_none rfl) rfl rfl (ex_add rfl rfl rfl) ?_
        refine ops_ex rfl (guard_none rfl) rfl rfl (ex_move rfl rfl) ?_
        refine ops_nil ?_
        exact at_again k1149 (ρ1 := [(0, p0), (3, .pointer (some ⟨b1121, 0, none⟩)), (7, .int .i64 (x0.length : Int)), (8, .int .i64 (wrap64 (a1144 + 1)))]) (Nat.lt_succ_self _) ⟨_, ho1139, rfl, HM⟩ (Sub.cons rfl (Sub.cons rfl (Sub.cons rfl (Sub.cons rfl Sub.nil))))
    · replace ho1139 := cond_f hb1151 ho1139
      refine run_exit ?_
      refine at_then_exit ?_
      refine at_then_exit ?_
      refine at_block_exit ?_
      replace HM := (HM.front 0 rfl rfl).drop
      exact at_mid (ρ' := []) ⟨(Option.some.inj ho1139), rfl, HM⟩ Sub.nil
  · rintro _ w1155 ⟨rfl, rfl, HM⟩
    replace H := (thn_inr H)
    refine run_seq ?_
    refine run_region rfl ?_
    refine ops_ex rfl (guard_none rfl) rfl rfl (ex_assign rfl rfl) ?_
    refine ops_nil ?_
    refine at_then ?_
    refine run_ret ?_
    have hR := Option.some.inj H
    subst hR
    exact at_ret1 rfl rfl ⟨_, rfl, rfl, HM⟩

def slices_Contains_impl_Sign.f (k : Nat) (x0 : List Sign) (x1 : Sign) : Option Bool := ((slices_Index_impl_Sign.f k x0 x1).bind fun t1162 => some (decide (0 ≤ t1162)))
theorem slices_Contains_impl_Sign.calls {k : Nat} {x0 : List Sign} {x1 : Sign} {p0 : Value} {w : World} (hp0 : RdS kSign w p0 x0) {r : Bool} (H : slices_Contains_impl_Sign.f k x0 x1 = some r) :
    Calls Try.prog 151 ([p0, .agg #[(.int .i64 x1.fKey), (.int .i64 x1.fId)]] : List Value).toArray w (fun e w_ => ∃ v, e = .returned v ∧ v = (.bool r) ∧ Mem w [] w_ []) := by
  have HM := Mem.start w
  refine calls_run (N := 9) Try.func151 rfl rfl rfl rfl ?_
  unfold slices_Contains_impl_Sign.f at H
  refine run_seq ?_
  refine run_region rfl ?_
  refine ops_does rfl (guard_none rfl) rfl rfl (does_box (cs := [.int .i64 x1.fKey, .int .i64 x1.fId]) rfl rfl rfl HM) ?_
  rintro _ w1161 ⟨b1158, rfl, HM⟩
  refine ops_ex rfl (guard_none rfl) rfl rfl (ex_assign rfl rfl) ?_
  refine ops_nil ?_
  refine at_then ?_
  refine run_seq ?_
  obtain ⟨t1162, h1163, H⟩ := bind_some H
  refine run_region rfl ?_
  refine ops_ex rfl (guard_none rfl) rfl rfl (ex_move rfl rfl) ?_
  refine ops_ex rfl (guard_none rfl) rfl rfl (ex_loadN (cs := [(.int .i64 x1.fKey), (.int .i64 x1.fId)]) rfl rfl Try.underlying171 rfl tsz171 rfl ((HM.box_at 0 rfl).sub 0 2 rfl)) ?_
  refine ops_does rfl (guard_none rfl) rfl rfl (does_callk rfl callok167 rfl (slices_Index_impl_Sign.calls (x0 := x0) (x1 := x1) (HM.rd hp0) h1163)) ?_
  rintro _ w1164 ⟨rfl, hn⟩
  replace HM : Mem w [] w1164 [box b1158 171 [.int .i64 x1.fKey, .int .i64 x1.fId]] := HM.call hn
  refine ops_ex rfl (guard_none rfl) rfl rfl (ex_geq rfl rfl rfl) ?_
  refine ops_ex rfl (guard_none rfl) rfl rfl (ex_assign rfl rfl) ?_
  refine ops_nil ?_
  refine at_then ?_
  refine run_ret ?_
  replace HM := (HM.front 0 rfl rfl).drop
  have hR := Option.some.inj H
  subst hR
  exact at_ret1 rfl rfl ⟨_, rfl, rfl, HM⟩

def impl_LedgerFault.l0 (x0 : Ledger) : Nat → Int → Option (Int ⊕ Unit)
  | 0, _ => none
  | k + 1, a1293 => (bif (decide (a1293 < (x0.fTexts.length : Int))) then (chk (idxOk a1293 x0.fTexts.length) ((impl_isText.f k (gt x0.fTexts a1293)).bind fun t1318 => (bif !t1318 then some (.inl 2) else (chk (cutOk a1293 x0.fTexts.length) ((slices_Contains_string.f k (x0.fTexts.take (a1293).toNat) (gt x0.fTexts a1293)).bind fun t1326 => (bif t1326 then some (.inl 7) else impl_LedgerFault.l0 x0 k (wrap64 (a1293 + 1)))))))) else some (.inr ()))
theorem impl_LedgerFault.l0_z (x0 : Ledger) (a1293 : Int) : impl_LedgerFault.l0 x0 0 a1293 = none := rfl
theorem impl_LedgerFault.l0_s (x0 : Ledger) (k : Nat) (a1293 : Int) : impl_LedgerFault.l0 x0 (k + 1) a1293 = (bif (decide (a1293 < (x0.fTexts.length : Int))) then (chk (idxOk a1293 x0.fTexts.length) ((impl_isText.f k (gt x0.fTexts a1293)).bind fun t1318 => (bif !t1318 then some (.inl 2) else (chk (cutOk a1293 x0.fTexts.length) ((slices_Contains_string.f k (x0.fTexts.take (a1293).toNat) (gt x0.fTexts a1293)).bind fun t1326 => (bif t1326 then some (.inl 7) else impl_LedgerFault.l0 x0 k (wrap64 (a1293 + 1)))))))) else some (.inr ())) := rfl
def impl_LedgerFault.l1 (x0 : Ledger) : Nat → Int → Option (Int ⊕ Unit)
  | 0, _ => none
  | k + 1, a1426 => (bif (decide (a1426 < (x0.fSigns.length : Int))) then (chk (idxOk a1426 x0.fSigns.length) ((impl_isKey.f k ((gt x0.fSigns a1426).fKey)).bind fun t1465 => ((bif (!(!t1465)) then impl_within.f k ((gt x0.fSigns a1426).fId) 1 (x0.fTexts.length : Int) else some default).bind fun t1467 => (bif ((!t1465) || (!t1467)) then some (.inl 3) else (chk (cutOk a1426 x0.fSigns.length) ((slices_Contains_impl_Sign.f k (x0.fSigns.take (a1426).toNat) (gt x0.fSigns a1426)).bind fun t1479 => (bif t1479 then some (.inl 7) else impl_LedgerFault.l1 x0 k (wrap64 (a1426 + 1))))))))) else some (.inr ()))
theorem impl_LedgerFault.l1_z (x0 : Ledger) (a1426 : Int) : impl_LedgerFault.l1 x0 0 a1426 = none := rfl
theorem impl_LedgerFault.l1_s (x0 : Ledger) (k : Nat) (a1426 : Int) : impl_LedgerFault.l1 x0 (k + 1) a1426 = (bif (decide (a1426 < (x0.fSigns.length : Int))) then (chk (idxOk a1426 x0.fSigns.length) ((impl_isKey.f k ((gt x0.fSigns a1426).fKey)).bind fun t1465 => ((bif (!(!t1465)) then impl_within.f k ((gt x0.fSigns a1426).fId) 1 (x0.fTexts.length : Int) else some default).bind fun t1467 => (bif ((!t1465) || (!t1467)) then some (.inl 3) else (chk (cutOk a1426 x0.fSigns.length) ((slices_Contains_impl_Sign.f k (x0.fSigns.take (a1426).toNat) (gt x0.fSigns a1426)).bind fun t1479 => (bif t1479 then some (.inl 7) else impl_LedgerFault.l1 x0 k (wrap64 (a1426 + 1))))))))) else some (.inr ())) := rfl
def impl_LedgerFault.f (k : Nat) (x0 : Ledger) : Option Int := (bif ((decide (60 < (x0.fTexts.length : Int))) || (decide (120 < (x0.fSigns.length : Int)))) then some 2 else ((impl_LedgerFault.l0 x0 k 0).bind fun o1275 => thn o1275 (fun r => some r) (fun _ => ((impl_LedgerFault.l1 x0 k 0).bind fun o1401 => thn o1401 (fun r => some r) (fun _ => some 0)))))
theorem impl_LedgerFault.calls {k : Nat} {x0 : Ledger} {p0_0 : Value} {p0_1 : Value} {w : World} (hp0_0 : RdS kStr w p0_0 x0.fTexts) (hp0_1 : RdS kSign w p0_1 x0.fSigns) {r : Int} (H : impl_LedgerFault.f k x0 = some r) :
    Calls Try.prog 105 ([.agg #[p0_0, p0_1]] : List Value).toArray w (fun e w_ => ∃ v, e = .returned v ∧ v = (.int .i64 r) ∧ Mem w [] w_ []) := by
  have HM := Mem.start w
  refine calls_run (N := 63) Try.func105 rfl rfl rfl rfl ?_
  unfold impl_LedgerFault.f at H
  refine run_seq ?_
  refine run_region rfl ?_
  refine ops_does rfl (guard_none rfl) rfl rfl (does_box (cs := [p0_0, p0_1]) rfl rfl rfl HM) ?_
  rintro _ w1220 ⟨b1217, rfl, HM⟩
  refine ops_ex rfl (guard_none rfl) rfl rfl (ex_assign rfl rfl) ?_
  refine ops_nil ?_
  refine at_then ?_
  refine run_seq ?_
  refine run_seq ?_
  refine run_meet (fun ρ_ w_ => ρ_ = [(1, .pointer (some ⟨b1217, 0, none⟩)), (16, .bool ((decide (60 < (x0.fTexts.length : Int))) || (decide (120 < (x0.fSigns.length : Int)))))] ∧ Mem w [] w_ [box b1217 69 [p0_0, p0_1]]) ?_ ?_
  · skip
    refine run_region rfl ?_
    refine ops_ex rfl (guard_none rfl) rfl rfl (ex_fieldAddr (off' := 0) rfl rfl Try.underlying69 rfl tsz61 rfl) ?_
    refine ops_ex rfl (guard_none rfl) rfl rfl (ex_load1 rfl rfl Try.underlying61 rfl ((HM.box_at 0 rfl) 0 _ rfl)) ?_
    refine ops_ex rfl (guard_none rfl) rfl rfl (ex_len (d := kStr) (xs := x0.fTexts) rfl rfl Try.underlying61 hp0_0) ?_
    refine ops_ex rfl (guard_none rfl) rfl rfl (ex_gtr rfl rfl rfl) ?_
    refine ops_ex rfl (guard_none rfl) rfl rfl (ex_move rfl rfl) ?_
    refine bool_cases (decide (60 < (x0.fTexts.length : Int))) (fun hg1222 => ?_) (fun hg1222 => ?_)
    · skip
      refine ops_off rfl (guard_off rfl rfl rfl hg1222) rfl rfl ?_
      refine ops_off rfl (guard_off rfl rfl rfl hg1222) rfl rfl ?_
      refine ops_off rfl (guard_off rfl rfl rfl hg1222) rfl rfl ?_
      refine ops_off rfl (guard_off rfl rfl rfl hg1222) rfl rfl ?_
      have hg1223 : ((decide (60 < (x0.fTexts.length : Int))) || (decide (120 < (x0.fSigns.length : Int)))) = true := by simp only [hg1222, Bool.and_true, Bool.true_and, Bool.and_false, Bool.false_and, Bool.or_true, Bool.true_or, Bool.or_false, Bool.false_or, Bool.not_true, Bool.not_false, Bool.not_not]
      refine ops_ex (v := .bool ((decide (60 < (x0.fTexts.length : Int))) || (decide (120 < (x0.fSigns.length : Int))))) rfl (guard_none rfl) rfl rfl (ex_por_t rfl rfl hg1222) ?_
      refine ops_nil ?_
      exact at_meet [(1, .pointer (some ⟨b1217, 0, none⟩)), (16, .bool ((decide (60 < (x0.fTexts.length : Int))) || (decide (120 < (x0.fSigns.length : Int)))))] ⟨rfl, HM⟩ (Sub.cons rfl (Sub.cons rfl Sub.nil))
    · skip
      refine ops_ex rfl (guard_on rfl rfl rfl hg1222) rfl rfl (ex_fieldAddr (off' := 1) rfl rfl Try.underlying69 rfl tsz67 rfl) ?_
      refine ops_ex rfl (guard_on rfl rfl rfl hg1222) rfl rfl (ex_load1 rfl rfl Try.underlying67 rfl ((HM.box_at 0 rfl) 1 _ rfl)) ?_
      refine ops_ex rfl (guard_on rfl rfl rfl hg1222) rfl rfl (ex_len (d := kSign) (xs := x0.fSigns) rfl rfl Try.underlying67 hp0_1) ?_
      refine ops_ex rfl (guard_on rfl rfl rfl hg1222) rfl rfl (ex_gtr rfl rfl rfl) ?_
      refine ops_ex (v := .bool ((decide (60 < (x0.fTexts.length : Int))) || (decide (120 < (x0.fSigns.length : Int))))) rfl (guard_none rfl) rfl rfl (ex_por_f rfl rfl hg1222 rfl) ?_
      refine ops_nil ?_
      exact at_meet [(1, .pointer (some ⟨b1217, 0, none⟩)), (16, .bool ((decide (60 < (x0.fTexts.length : Int))) || (decide (120 < (x0.fSigns.length : Int)))))] ⟨rfl, HM⟩ (Sub.cons rfl (Sub.cons rfl Sub.nil))
  · rintro _ w1224 ⟨rfl, HM⟩
    refine at_then ?_
    refine run_cond (b := ((decide (60 < (x0.fTexts.length : Int))) || (decide (120 < (x0.fSigns.length : Int))))) rfl (fun hb1225 => ?_) (fun hb1225 => ?_)
    · replace H := cond_t hb1225 H
      refine run_seq ?_
      refine run_region rfl ?_
      refine ops_ex rfl (guard_none rfl) rfl rfl (ex_assign rfl rfl) ?_
      refine ops_nil ?_
      refine at_then ?_
      refine run_ret ?_
      refine at_then_ret ?_
      replace HM := (HM.front 0 rfl rfl).drop
      have hR := Option.some.inj H
      subst hR
      exact at_ret1 rfl rfl ⟨_, rfl, rfl, HM⟩
    · replace H := cond_f hb1225 H
      refine run_skip ?_
      refine at_then ?_
      obtain ⟨o1275, ho1276, H⟩ := bind_some H
      refine run_mid (fun ρ_ w_ => Sum.inr () = o1275 ∧ ρ_ = [(1, .pointer (some ⟨b1217, 0, none⟩))] ∧ Mem w [] w_ [box b1217 69 [p0_0, p0_1]]) ?_ ?_
      · skip
        refine run_seq ?_
        refine run_region rfl ?_
        refine ops_ex rfl (guard_none rfl) rfl rfl (ex_fieldAddr (off' := 0) rfl rfl Try.underlying69 rfl tsz61 rfl) ?_
        refine ops_ex rfl (guard_none rfl) rfl rfl (ex_load1 rfl rfl Try.underlying61 rfl ((HM.box_at 0 rfl) 0 _ rfl)) ?_
        refine ops_ex rfl (guard_none rfl) rfl rfl (ex_len (d := kStr) (xs := x0.fTexts) rfl rfl Try.underlying61 hp0_0) ?_
        refine ops_ex rfl (guard_none rfl) rfl rfl (ex_move rfl rfl) ?_
        refine ops_nil ?_
        refine at_then ?_
        refine run_block ?_
        refine run_loop (fun k_ ρ_ w_ => ∃ a1293 : Int, impl_LedgerFault.l0 x0 k_ a1293 = some o1275 ∧ ρ_ = [(1, .pointer (some ⟨b1217, 0, none⟩)), (18, p0_0), (19, .int .i64 (x0.fTexts.length : Int)), (20, .int .i64 a1293)] ∧ Mem w [] w_ [box b1217 69 [p0_0, p0_1]]) k (ρ1 := [(1, .pointer (some ⟨b1217, 0, none⟩)), (18, p0_0), (19, .int .i64 (x0.fTexts.length : Int)), (20, .int .i64 0)]) ⟨_, ho1276, rfl, HM⟩ (Sub.cons rfl (Sub.cons rfl (Sub.cons rfl (Sub.cons rfl Sub.nil)))) ?_
        clear HM ho1276
        rintro k1310 _ w1311 ⟨a1293, ho1276, rfl, HM⟩
        obtain _ | k1310 := k1310
        · exact nomatch ((impl_LedgerFault.l0_z x0 a1293).symm.trans ho1276)
        replace ho1276 := (impl_LedgerFault.l0_s x0 k1310 a1293).symm.trans ho1276
        refine run_seq ?_
        refine run_region rfl ?_
        refine ops_ex rfl (guard_none rfl) rfl rfl (ex_lss rfl rfl rfl) ?_
        refine ops_nil ?_
        refine at_then ?_
        refine run_seq ?_
        refine run_cond (b := (decide (a1293 < (x0.fTexts.length : Int)))) rfl (fun hb1312 => ?_) (fun hb1312 => ?_)
        · replace ho1276 := cond_t hb1312 ho1276
          refine run_skip ?_
          refine at_then ?_
          refine run_seq ?_
          refine run_block ?_
          refine run_seq ?_
          obtain ⟨e1313, ho1276⟩ := chk_some ho1276
          refine run_region rfl ?_
          refine ops_ex rfl (guard_none rfl) rfl rfl (ex_move rfl rfl) ?_
          have hc1314 : CellsAt _ (sb p0_0) (so p0_0 + (a1293).toNat * 1) [(.string (gt x0.fTexts a1293))] := rd_plain hp0_0 e1313
          refine ops_ex rfl (guard_none rfl) rfl rfl (ex_indexAddr (d := kStr) rfl rfl rfl Try.underlying61 tsz9 hp0_0 (idx_lo e1313) (idx_hi e1313)) ?_
          refine ops_ex rfl (guard_none rfl) rfl rfl (ex_load1 rfl rfl Try.underlying9 rfl ((HM.at_ hc1314) 0 _ rfl)) ?_
          refine ops_ex rfl (guard_none rfl) rfl rfl (ex_assign rfl rfl) ?_
          refine ops_ex rfl (guard_none rfl) rfl rfl (ex_assign rfl rfl) ?_
          refine ops_nil ?_
          refine at_then ?_
          refine run_seq ?_
          refine run_seq ?_
          obtain ⟨t1318, h1319, ho1276⟩ := bind_some ho1276
          refine run_region rfl ?_
          refine ops_ex rfl (guard_none rfl) rfl rfl (ex_move rfl rfl) ?_
          refine ops_does rfl (guard_none rfl) rfl rfl (does_callk rfl callok149 rfl (impl_isText.calls (x0 := (gt x0.fTexts a1293)) h1319)) ?_
          rintro _ w1320 ⟨rfl, hn⟩
          replace HM : Mem w [] w1320 [box b1217 69 [p0_0, p0_1]] := HM.call hn
          refine ops_ex rfl (guard_none rfl) rfl rfl (ex_not rfl rfl) ?_
          refine ops_nil ?_
          refine at_then ?_
          refine run_cond (b := !t1318) rfl (fun hb1321 => ?_) (fun hb1321 => ?_)
          · replace ho1276 := cond_t hb1321 ho1276
            refine run_seq ?_
            refine run_region rfl ?_
            refine ops_ex rfl (guard_none rfl) rfl rfl (ex_assign rfl rfl) ?_
            refine ops_nil ?_
            refine at_then ?_
            refine run_ret ?_
            refine at_then_ret ?_
            refine at_block_ret ?_
            refine at_then_ret ?_
            refine at_then_ret ?_
            refine at_block_ret ?_
            refine at_then_ret ?_
            replace HM := (HM.front 0 rfl rfl).drop
            have hR := Option.some.inj ho1276
            subst hR
            have hT := thn_inl H
            have hR := Option.some.inj hT
            subst hR
            exact at_ret1 rfl rfl ⟨_, rfl, rfl, HM⟩
          · replace ho1276 := cond_f hb1321 ho1276
            refine run_skip ?_
            refine at_then ?_
            refine run_seq ?_
            obtain ⟨e1322, ho1276⟩ := chk_some ho1276
            obtain ⟨t1326, h1327, ho1276⟩ := bind_some ho1276
            refine run_region rfl ?_
            refine ops_ex rfl (guard_none rfl) rfl rfl (ex_fieldAddr (off' := 0) rfl rfl Try.underlying69 rfl tsz61 rfl) ?_
            refine ops_ex rfl (guard_none rfl) rfl rfl (ex_load1 rfl rfl Try.underlying61 rfl ((HM.box_at 0 rfl) 0 _ rfl)) ?_
            refine ops_ex rfl (guard_none rfl) rfl rfl (ex_move rfl rfl) ?_
            refine ops_exE rfl (guard_none rfl) rfl rfl (ex_cutH kStr rfl rfl rfl Try.underlying61 tsz9 hp0_0 e1322) ?_
            intro u1323 hr1325
            refine ops_ex rfl (guard_none rfl) rfl rfl (ex_move rfl rfl) ?_
            refine ops_does rfl (guard_none rfl) rfl rfl (does_callk rfl callok150 rfl (slices_Contains_string.calls (x0 := x0.fTexts.take (a1293).toNat) (x1 := (gt x0.fTexts a1293)) (HM.rd hr1325) h1327)) ?_
            rintro _ w1328 ⟨rfl, hn⟩
            replace HM : Mem w [] w1328 [box b1217 69 [p0_0, p0_1]] := HM.call hn
            refine ops_nil ?_
            refine at_then ?_
            refine run_cond (b := t1326) rfl (fun hb1329 => ?_) (fun hb1329 => ?_)
            · replace ho1276 := cond_t hb1329 ho1276
              refine run_seq ?_
              refine run_region rfl ?_
              refine ops_ex rfl (guard_none rfl) rfl rfl (ex_assign rfl rfl) ?_
              refine ops_nil ?_
              refine at_then ?_
              refine run_ret ?_
              refine at_block_ret ?_
              refine at_then_ret ?_
              refine at_then_ret ?_
              refine at_block_ret ?_
              refine at_then_ret ?_
              replace HM := (HM.front 0 rfl rfl).drop
              have hR := Option.some.inj ho1276
              subst hR
              have hT := thn_inl H
              have hR := Option.some.inj hT
              subst hR
              exact at_ret1 rfl rfl ⟨_, rfl, rfl, HM⟩
            · replace ho1276 := cond_f hb1329 ho1276
              refine run_skip ?_
              refine at_block ?_
              refine at_then ?_
              refine run_region rfl ?_
              refine ops_ex rfl (guard_none rfl) rfl rfl (ex_add rfl rfl rfl) ?_
              refine ops_ex rfl (guard_none rfl) rfl rfl (ex_move rfl rfl) ?_
              refine ops_nil ?_
              exact at_again k1310 (ρ1 := [(1, .pointer (some ⟨b1217, 0, none⟩)), (18, p0_0), (19, .int .i64 (x0.fTexts.length : Int)), (20, .int .i64 (wrap64 (a1293 + 1)))]) (Nat.lt_succ_self _) ⟨_, ho1276, rfl, HM⟩ (Sub.cons rfl (Sub.cons rfl (Sub.cons rfl (Sub.cons rfl Sub.nil))))
        · replace ho1276 := cond_f hb1312 ho1276
          refine run_exit ?_
          refine at_then_exit ?_
          refine at_then_exit ?_
          refine at_block_exit ?_
          exact at_mid (ρ' := [(1, .pointer (some ⟨b1217, 0, none⟩))]) ⟨(Option.some.inj ho1276), rfl, HM⟩ (Sub.cons rfl Sub.nil)
      · rintro _ w1330 ⟨rfl, rfl, HM⟩
        replace H := (thn_inr H)
        obtain ⟨o1401, ho1402, H⟩ := bind_some H
        refine run_mid (fun ρ_ w_ => Sum.inr () = o1401 ∧ ρ_ = [] ∧ Mem w [] w_ []) ?_ ?_
        · skip
          refine run_seq ?_
          refine run_region rfl ?_
          refine ops_ex rfl (guard_none rfl) rfl rfl (ex_fieldAddr (off' := 1) rfl rfl Try.underlying69 rfl tsz67 rfl) ?_
          refine ops_ex rfl (guard_none rfl) rfl rfl (ex_load1 rfl rfl Try.underlying67 rfl ((HM.box_at 0 rfl) 1 _ rfl)) ?_
          refine ops_ex rfl (guard_none rfl) rfl rfl (ex_len (d := kSign) (xs := x0.fSigns) rfl rfl Try.underlying67 hp0_1) ?_
          refine ops_ex rfl (guard_none rfl) rfl rfl (ex_move rfl rfl) ?_
          refine ops_nil ?_
          refine at_then ?_
          refine run_block ?_
          refine run_loop (fun k_ ρ_ w_ => ∃ a1426 : Int, impl_LedgerFault.l1 x0 k_ a1426 = some o1401 ∧ ρ_ = [(1, .pointer (some ⟨b1217, 0, none⟩)), (36, p0_1), (37, .int .i64 (x0.fSigns.length : Int)), (38, .int .i64 a1426)] ∧ Mem w [] w_ [box b1217 69 [p0_0, p0_1]]) k (ρ1 := [(1, .pointer (some ⟨b1217, 0, none⟩)), (36, p0_1), (37, .int .i64 (x0.fSigns.length : Int)), (38, .int .i64 0)]) ⟨_, ho1402, rfl, HM⟩ (Sub.cons rfl (Sub.cons rfl (Sub.cons rfl (Sub.cons rfl Sub.nil)))) ?_
          clear HM ho1402
          rintro k1450 _ w1451 ⟨a1426, ho1402, rfl, HM⟩
          obtain _ | k1450 := k1450
          · exact nomatch ((impl_LedgerFault.l1_z x0 a1426).symm.trans ho1402)
          replace ho1402 := (impl_LedgerFault.l1_s x0 k1450 a1426).symm.trans ho1402
          refine run_seq ?_
          refine run_region rfl ?_
          refine ops_ex rfl (guard_none rfl) rfl rfl (ex_lss rfl rfl rfl) ?_
          refine ops_nil ?_
          refine at_then ?_
          refine run_seq ?_
          refine run_cond (b := (decide (a1426 < (x0.fSigns.length : Int)))) rfl (fun hb1452 => ?_) (fun hb1452 => ?_)
          · replace ho1402 := cond_t hb1452 ho1402
            refine run_skip ?_
            refine at_then ?_
            refine run_seq ?_
            refine run_block ?_
            refine run_seq ?_
            obtain ⟨e1453, ho1402⟩ := chk_some ho1402
            refine run_region rfl ?_
            refine ops_ex rfl (guard_none rfl) rfl rfl (ex_move rfl rfl) ?_
            have hc1454 : CellsAt _ (sb p0_1) (so p0_1 + (a1426).toNat * 2) [(.int .i64 ((gt x0.fSigns a1426).fKey)), (.int .i64 ((gt x0.fSigns a1426).fId))] := rd_plain hp0_1 e1453
            refine ops_ex rfl (guard_none rfl) rfl rfl (ex_indexAddr (d := kSign) rfl rfl rfl Try.underlying67 tsz171 hp0_1 (idx_lo e1453) (idx_hi e1453)) ?_
            refine ops_ex rfl (guard_none rfl) rfl rfl (ex_loadN (cs := [(.int .i64 ((gt x0.fSigns a1426).fKey)), (.int .i64 ((gt x0.fSigns a1426).fId))]) rfl rfl Try.underlying171 rfl tsz171 rfl ((HM.at_ hc1454).sub 0 2 rfl)) ?_
            refine ops_does rfl (guard_none rfl) rfl rfl (does_alloc (cs := [.int .i64 0, .int .i64 0]) rfl tz171 rfl HM) ?_
            rintro _ w1458 ⟨b1455, rfl, HM⟩
            refine ops_ex rfl (guard_none rfl) rfl rfl (ex_assign rfl rfl) ?_
            refine ops_doesS rfl (guard_none rfl) rfl (does_store (vs := [.int .i64 ((gt x0.fSigns a1426).fKey), .int .i64 ((gt x0.fSigns a1426).fId)]) (cs' := [.int .i64 ((gt x0.fSigns a1426).fKey), .int .i64 ((gt x0.fSigns a1426).fId)]) rfl rfl rfl rfl tsz171 (Ones.int (Ones.int Ones.nil)) rfl rfl HM) ?_
            rintro w1459 HM
            refine ops_nil ?_
            refine at_then ?_
            refine run_seq ?_
            refine run_seq ?_
            obtain ⟨t1465, h1466, ho1402⟩ := bind_some ho1402
            obtain ⟨t1467, h1468, ho1402⟩ := bind_some ho1402
            refine run_meet (fun ρ_ w_ => ρ_ = [(1, .pointer (some ⟨b1217, 0, none⟩)), (36, p0_1), (37, .int .i64 (x0.fSigns.length : Int)), (38, .int .i64 a1426), (6, .pointer (some ⟨b1455, 0, none⟩)), (5, .int .i64 a1426), (55, .bool ((!t1465) || (!t1467)))] ∧ Mem w [] w_ [box b1217 69 [p0_0, p0_1], box b1455 171 [.int .i64 ((gt x0.fSigns a1426).fKey), .int .i64 ((gt x0.fSigns a1426).fId)]]) ?_ ?_
            · skip
              refine run_region rfl ?_
              refine ops_ex rfl (guard_none rfl) rfl rfl (ex_fieldAddr (off' := 0) rfl rfl Try.underlying171 rfl tsz2 rfl) ?_
              refine ops_ex rfl (guard_none rfl) rfl rfl (ex_load1 rfl rfl Try.underlying2 rfl ((HM.box_at 0 rfl) 0 _ rfl)) ?_
              refine ops_does rfl (guard_none rfl) rfl rfl (does_callk rfl callok86 rfl (impl_isKey.calls (x0 := (gt x0.fSigns a1426).fKey) h1466)) ?_
              rintro _ w1469 ⟨rfl, hn⟩
              replace HM : Mem w [] w1469 [box b1455 171 [.int .i64 ((gt x0.fSigns a1426).fKey), .int .i64 ((gt x0.fSigns a1426).fId)], box b1217 69 [p0_0, p0_1]] := HM.call hn
              refine ops_ex rfl (guard_none rfl) rfl rfl (ex_not rfl rfl) ?_
              refine ops_ex rfl (guard_none rfl) rfl rfl (ex_move rfl rfl) ?_
              refine bool_cases (!t1465) (fun hg1470 => ?_) (fun hg1470 => ?_)
              · skip
                refine ops_off rfl (guard_off rfl rfl rfl hg1470) rfl rfl ?_
                refine ops_off rfl (guard_off rfl rfl rfl hg1470) rfl rfl ?_
                refine ops_off rfl (guard_off rfl rfl rfl hg1470) rfl rfl ?_
                refine ops_off rfl (guard_off rfl rfl rfl hg1470) rfl rfl ?_
                refine ops_off rfl (guard_off rfl rfl rfl hg1470) rfl rfl ?_
                refine ops_off rfl (guard_off rfl rfl rfl hg1470) rfl rfl ?_
                refine ops_off rfl (guard_off rfl rfl rfl hg1470) rfl rfl ?_
                have hg1471 : ((!t1465) || (!t1467)) = true := by simp only [hg1470, Bool.and_true, Bool.true_and, Bool.and_false, Bool.false_and, Bool.or_true, Bool.true_or, Bool.or_false, Bool.false_or, Bool.not_true, Bool.not_false, Bool.not_not]
                refine ops_ex (v := .bool ((!t1465) || (!t1467))) rfl (guard_none rfl) rfl rfl (ex_por_t rfl rfl hg1470) ?_
                refine ops_nil ?_
                replace HM := HM.front 1 rfl rfl
                exact at_meet [(1, .pointer (some ⟨b1217, 0, none⟩)), (36, p0_1), (37, .int .i64 (x0.fSigns.length : Int)), (38, .int .i64 a1426), (6, .pointer (some ⟨b1455, 0, none⟩)), (5, .int .i64 a1426), (55, .bool ((!t1465) || (!t1467)))] ⟨rfl, HM⟩ (Sub.cons rfl (Sub.cons rfl (Sub.cons rfl (Sub.cons rfl (Sub.cons rfl (Sub.cons rfl (Sub.cons rfl Sub.nil)))))))
              · skip
                refine ops_ex rfl (guard_on rfl rfl rfl hg1470) rfl rfl (ex_fieldAddr (off' := 1) rfl rfl Try.underlying171 rfl tsz2 rfl) ?_
                refine ops_ex rfl (guard_on rfl rfl rfl hg1470) rfl rfl (ex_load1 rfl rfl Try.underlying2 rfl ((HM.box_at 0 rfl) 1 _ rfl)) ?_
                refine ops_ex rfl (guard_on rfl rfl rfl hg1470) rfl rfl (ex_fieldAddr (off' := 0) rfl rfl Try.underlying69 rfl tsz61 rfl) ?_
                refine ops_ex rfl (guard_on rfl rfl rfl hg1470) rfl rfl (ex_load1 rfl rfl Try.underlying61 rfl ((HM.box_at 1 rfl) 0 _ rfl)) ?_
                refine ops_ex rfl (guard_on rfl rfl rfl hg1470) rfl rfl (ex_len (d := kStr) (xs := x0.fTexts) rfl rfl Try.underlying61 hp0_0) ?_
                refine ops_does rfl (guard_on rfl rfl rfl hg1470) rfl rfl (does_callk rfl callok81 rfl (impl_within.calls (x0 := (gt x0.fSigns a1426).fId) (x1 := 1) (x2 := (x0.fTexts.length : Int)) (cond_t (not_mk hg1470) h1468))) ?_
                rintro _ w1472 ⟨rfl, hn⟩
                replace HM : Mem w [] w1472 [box b1455 171 [.int .i64 ((gt x0.fSigns a1426).fKey), .int .i64 ((gt x0.fSigns a1426).fId)], box b1217 69 [p0_0, p0_1]] := HM.call hn
                refine ops_ex rfl (guard_on rfl rfl rfl hg1470) rfl rfl (ex_not rfl rfl) ?_
                refine ops_ex (v := .bool ((!t1465) || (!t1467))) rfl (guard_none rfl) rfl rfl (ex_por_f rfl rfl hg1470 rfl) ?_
                refine ops_nil ?_
                replace HM := HM.front 1 rfl rfl
                exact at_meet [(1, .pointer (some ⟨b1217, 0, none⟩)), (36, p0_1), (37, .int .i64 (x0.fSigns.length : Int)), (38, .int .i64 a1426), (6, .pointer (some ⟨b1455, 0, none⟩)), (5, .int .i64 a1426), (55, .bool ((!t1465) || (!t1467)))] ⟨rfl, HM⟩ (Sub.cons rfl (Sub.cons rfl (Sub.cons rfl (Sub.cons rfl (Sub.cons rfl (Sub.cons rfl (Sub.cons rfl Sub.nil)))))))
            · rintro _ w1473 ⟨rfl, HM⟩
              refine at_then ?_
              refine run_cond (b := ((!t1465) || (!t1467))) rfl (fun hb1474 => ?_) (fun hb1474 => ?_)
              · replace ho1402 := cond_t hb1474 ho1402
                refine run_seq ?_
                refine run_region rfl ?_
                refine ops_ex rfl (guard_none rfl) rfl rfl (ex_assign rfl rfl) ?_
                refine ops_nil ?_
                refine at_then ?_
                refine run_ret ?_
                refine at_then_ret ?_
                refine at_block_ret ?_
                refine at_then_ret ?_
                refine at_then_ret ?_
                refine at_block_ret ?_
                refine at_then_ret ?_
                replace HM := (HM.front 0 rfl rfl).drop
                replace HM := (HM.front 0 rfl rfl).drop
                have hR := Option.some.inj ho1402
                subst hR
                have hT := thn_inl H
                have hR := Option.some.inj hT
                subst hR
                exact at_ret1 rfl rfl ⟨_, rfl, rfl, HM⟩
              · replace ho1402 := cond_f hb1474 ho1402
                refine run_skip ?_
                refine at_then ?_
                refine run_seq ?_
                obtain ⟨e1475, ho1402⟩ := chk_some ho1402
                obtain ⟨t1479, h1480, ho1402⟩ := bind_some ho1402
                refine run_drawf (fun w_ => Mem w [] w_ [box b1217 69 [p0_0, p0_1], box b1455 171 [.int .i64 ((gt x0.fSigns a1426).fKey), .int .i64 ((gt x0.fSigns a1426).fId)]]) [(0, true), (1, true), (2, true), (3, true), (4, true), (5, false)] mixed rfl rfl (by kernel_rfl) ?_
                replace HM := HM.grow (fr_drew _)
                have hS := Mem.suf (M := []) HM
                refine drwp_take rfl (guard_none rfl) rfl rfl (fun w_ hS_ => (ex_fieldAddr (off' := 1) rfl rfl Try.underlying69 rfl tsz67 rfl)) hS ?_
                refine drwp_take rfl (guard_none rfl) rfl rfl (fun w_ hS_ => (ex_load1 rfl rfl Try.underlying67 rfl ((hS_.box_at 0 rfl) 1 _ rfl))) hS ?_
                refine drwp_take rfl (guard_none rfl) rfl rfl (fun w_ hS_ => (ex_move rfl rfl)) hS ?_
                refine drwp_takeE rfl (guard_none rfl) rfl rfl (ex_cutH kSign rfl rfl rfl Try.underlying67 tsz171 hp0_1 e1475) hS ?_
                intro u1476 hr1478
                refine drwp_take rfl (guard_none rfl) rfl rfl (fun w_ hS_ => (ex_loadN (cs := [(.int .i64 ((gt x0.fSigns a1426).fKey)), (.int .i64 ((gt x0.fSigns a1426).fId))]) rfl rfl Try.underlying171 rfl tsz171 rfl ((hS_.box_at 1 rfl).sub 0 2 rfl))) hS ?_
                refine drwp_one rfl (guard_none rfl) rfl rfl (does_callk rfl callok151 rfl (slices_Contains_impl_Sign.calls (x0 := x0.fSigns.take (a1426).toNat) (x1 := (gt x0.fSigns a1426)) (HM.rd hr1478) h1480)) ?_
                rintro _ w1481 ⟨rfl, hn⟩
                replace HM : Mem w [] w1481 [box b1217 69 [p0_0, p0_1], box b1455 171 [.int .i64 ((gt x0.fSigns a1426).fKey), .int .i64 ((gt x0.fSigns a1426).fId)]] := HM.call hn
                refine ⟨Mem.suf (M := []) HM, ?_⟩
                have hS := Mem.suf (M := []) HM
                refine drwp_done ?_
                refine at_then ?_
                refine run_cond (b := t1479) rfl (fun hb1482 => ?_) (fun hb1482 => ?_)
                · replace ho1402 := cond_t hb1482 ho1402
                  refine run_seq ?_
                  refine run_region rfl ?_
                  refine ops_ex rfl (guard_none rfl) rfl rfl (ex_assign rfl rfl) ?_
                  refine ops_nil ?_
                  refine at_then ?_
                  refine run_ret ?_
                  refine at_block_ret ?_
                  refine at_then_ret ?_
                  refine at_then_ret ?_
                  refine at_block_ret ?_
                  refine at_then_ret ?_
                  replace HM := (HM.front 0 rfl rfl).drop
                  replace HM := (HM.front 0 rfl rfl).drop
                  have hR := Option.some.inj ho1402
                  subst hR
                  have hT := thn_inl H
                  have hR := Option.some.inj hT
                  subst hR
                  exact at_ret1 rfl rfl ⟨_, rfl, rfl, HM⟩
                · replace ho1402 := cond_f hb1482 ho1402
                  refine run_skip ?_
                  refine at_block ?_
                  refine at_then ?_
                  refine run_region rfl ?_
                  refine ops_ex rfl (guard_none rfl) rfl rfl (ex_add rfl rfl rfl) ?_
                  refine ops_ex rfl (guard_none rfl) rfl rfl (ex_move rfl rfl) ?_
                  refine ops_nil ?_
                  replace HM := (HM.front 1 rfl rfl).drop
                  exact at_again k1450 (ρ1 := [(1, .pointer (some ⟨b1217, 0, none⟩)), (36, p0_1), (37, .int .i64 (x0.fSigns.length : Int)), (38, .int .i64 (wrap64 (a1426 + 1)))]) (Nat.lt_succ_self _) ⟨_, ho1402, rfl, HM⟩ (Sub.cons rfl (Sub.cons rfl (Sub.cons rfl (Sub.cons rfl Sub.nil))))
          · replace ho1402 := cond_f hb1452 ho1402
            refine run_exit ?_
            refine at_then_exit ?_
            refine at_then_exit ?_
            refine at_block_exit ?_
            replace HM := (HM.front 0 rfl rfl).drop
            exact at_mid (ρ' := []) ⟨(Option.some.inj ho1402), rfl, HM⟩ Sub.nil
        · rintro _ w1483 ⟨rfl, rfl, HM⟩
          replace H := (thn_inr H)
          refine run_seq ?_
          refine run_region rfl ?_
          refine ops_ex rfl (guard_none rfl) rfl rfl (ex_assign rfl rfl) ?_
          refine ops_nil ?_
          refine at_then ?_
          refine run_ret ?_
          have hR := Option.some.inj H
          subst hR
          exact at_ret1 rfl rfl ⟨_, rfl, rfl, HM⟩

def impl_Ledger_idOf.f (k : Nat) (x0 : Ledger) (x1 : ByteArray) : Option Int := ((slices_Index_string.f k x0.fTexts x1).bind fun t1499 => some (wrap64 (t1499 + 1)))
theorem impl_Ledger_idOf.calls {k : Nat} {x0 : Ledger} {x1 : ByteArray} {p0_0 : Value} {p0_1 : Value} {w : World} (hp0_0 : RdS kStr w p0_0 x0.fTexts) (hp0_1 : RdS kSign w p0_1 x0.fSigns) {r : Int} (H : impl_Ledger_idOf.f k x0 x1 = some r) :
    Calls Try.prog 106 ([.agg #[p0_0, p0_1], .string x1] : List Value).toArray w (fun e w_ => ∃ v, e = .returned v ∧ v = (.int .i64 r) ∧ Mem w [] w_ []) := by
  have HM := Mem.start w
  refine calls_run (N := 10) Try.func106 rfl rfl rfl rfl ?_
  unfold impl_Ledger_idOf.f at H
  refine run_seq ?_
  refine run_region rfl ?_
  refine ops_does rfl (guard_none rfl) rfl rfl (does_box (cs := [p0_0, p0_1]) rfl rfl rfl HM) ?_
  rintro _ w1498 ⟨b1495, rfl, HM⟩
  refine ops_ex rfl (guard_none rfl) rfl rfl (ex_assign rfl rfl) ?_
  refine ops_nil ?_
  refine at_then ?_
  refine run_seq ?_
  obtain ⟨t1499, h1500, H⟩ := bind_some H
  refine run_region rfl ?_
  refine ops_ex rfl (guard_none rfl) rfl rfl (ex_fieldAddr (off' := 0) rfl rfl Try.underlying69 rfl tsz61 rfl) ?_
  refine ops_ex rfl (guard_none rfl) rfl rfl (ex_load1 rfl rfl Try.underlying61 rfl ((HM.box_at 0 rfl) 0 _ rfl)) ?_
  refine ops_ex rfl (guard_none rfl) rfl rfl (ex_move rfl rfl) ?_
  refine ops_does rfl (guard_none rfl) rfl rfl (does_callk rfl callok152 rfl (slices_Index_string.calls (x0 := x0.fTexts) (x1 := x1) (HM.rd hp0_0) h1500)) ?_
  rintro _ w1501 ⟨rfl, hn⟩
  replace HM : Mem w [] w1501 [box b1495 69 [p0_0, p0_1]] := HM.call hn
  refine ops_ex rfl (guard_none rfl) rfl rfl (ex_add rfl rfl rfl) ?_
  refine ops_ex rfl (guard_none rfl) rfl rfl (ex_assign rfl rfl) ?_
  refine ops_nil ?_
  refine at_then ?_
  refine run_ret ?_
  replace HM := (HM.front 0 rfl rfl).drop
  have hR := Option.some.inj H
  subst hR
  exact at_ret1 rfl rfl ⟨_, rfl, rfl, HM⟩

def impl_IdOf.f (k : Nat) (x0 : Ledger) (x1 : ByteArray) : Option IntResult := ((impl_LedgerFault.f k x0).bind fun t1516 => (bif (t1516 != 0) then some (⟨t1516, 0⟩ : IntResult) else ((impl_Ledger_idOf.f k x0 x1).bind fun t1521 => (bif (t1521 == 0) then some (⟨4, 0⟩ : IntResult) else some (⟨0, t1521⟩ : IntResult)))))
theorem impl_IdOf.calls {k : Nat} {x0 : Ledger} {x1 : ByteArray} {p0_0 : Value} {p0_1 : Value} {w : World} (hp0_0 : RdS kStr w p0_0 x0.fTexts) (hp0_1 : RdS kSign w p0_1 x0.fSigns) {r : IntResult} (H : impl_IdOf.f k x0 x1 = some r) :
    Calls Try.prog 46 ([.agg #[p0_0, p0_1], .string x1] : List Value).toArray w (fun e w_ => ∃ v, e = .returned v ∧ v = (.agg #[.int .i64 r.fCode, .int .i64 r.fValue]) ∧ Mem w [] w_ []) := by
  have HM := Mem.start w
  refine calls_run (N := 21) Try.func46 rfl rfl rfl rfl ?_
  unfold impl_IdOf.f at H
  refine run_seq ?_
  refine run_region rfl ?_
  refine ops_does rfl (guard_none rfl) rfl rfl (does_box (cs := [p0_0, p0_1]) rfl rfl rfl HM) ?_
  rintro _ w1511 ⟨b1505, rfl, HM⟩
  refine ops_does rfl (guard_none rfl) rfl rfl (does_alloc (cs := [.int .i64 0, .int .i64 0]) rfl tz55 rfl HM) ?_
  rintro _ w1512 ⟨b1508, rfl, HM⟩
  refine ops_nil ?_
  refine at_then ?_
  refine run_seq ?_
  refine run_seq ?_
  obtain ⟨t1516, h1517, H⟩ := bind_some H
  refine run_region rfl ?_
  refine ops_ex rfl (guard_none rfl) rfl rfl (ex_loadN (cs := [p0_0, p0_1]) rfl rfl Try.underlying69 rfl tsz69 rfl ((HM.box_at 1 rfl).sub 0 2 rfl)) ?_
  refine ops_does rfl (guard_none rfl) rfl rfl (does_callk rfl callok105 rfl (impl_LedgerFault.calls (x0 := x0) (HM.rd hp0_0) (HM.rd hp0_1) h1517)) ?_
  rintro _ w1518 ⟨rfl, hn⟩
  replace HM : Mem w [] w1518 [box b1508 55 [.int .i64 0, .int .i64 0], box b1505 69 [p0_0, p0_1]] := HM.call hn
  refine ops_ex rfl (guard_none rfl) rfl rfl (ex_assign rfl rfl) ?_
  refine ops_nil ?_
  refine at_then ?_
  refine run_seq ?_
  refine run_region rfl ?_
  refine ops_ex rfl (guard_none rfl) rfl rfl (ex_move rfl rfl) ?_
  refine ops_ex rfl (guard_none rfl) rfl rfl (ex_neq rfl rfl rfl) ?_
  refine ops_nil ?_
  refine at_then ?_
  refine run_cond (b := (t1516 != 0)) rfl (fun hb1519 => ?_) (fun hb1519 => ?_)
  · replace H := cond_t hb1519 H
    refine run_seq ?_
    refine run_region rfl ?_
    refine ops_ex rfl (guard_none rfl) rfl rfl (ex_move rfl rfl) ?_
    refine ops_ex rfl (guard_none rfl) rfl rfl (ex_build (cells := #[(.int .i64 t1516), (.int .i64 0)]) rfl rfl (by kernel_rfl)) ?_
    refine ops_doesS rfl (guard_none rfl) rfl (does_store (vs := [.int .i64 t1516, .int .i64 0]) (cs' := [.int .i64 t1516, .int .i64 0]) rfl rfl rfl rfl tsz55 (Ones.int (Ones.int Ones.nil)) rfl rfl HM) ?_
    rintro w1520 HM
    refine ops_nil ?_
    refine at_then ?_
    refine run_ret ?_
    refine at_then_ret ?_
    replace HM := (HM.front 1 rfl rfl).drop
    have hcb0 := HM.box_at 0 rfl
    replace HM := (HM.front 0 rfl rfl).drop
    have hR := Option.some.inj H
    subst hR
    exact at_retN rfl rfl Try.underlying55 rfl tsz55 rfl hcb0 ⟨_, rfl, rfl, HM⟩
  · replace H := cond_f hb1519 H
    refine run_skip ?_
    refine at_then ?_
    refine run_seq ?_
    obtain ⟨t1521, h1522, H⟩ := bind_some H
    refine run_region rfl ?_
    refine ops_ex rfl (guard_none rfl) rfl rfl (ex_loadN (cs := [p0_0, p0_1]) rfl rfl Try.underlying69 rfl tsz69 rfl ((HM.box_at 1 rfl).sub 0 2 rfl)) ?_
    refine ops_ex rfl (guard_none rfl) rfl rfl (ex_move rfl rfl) ?_
    refine ops_does rfl (guard_none rfl) rfl rfl (does_callk rfl callok106 rfl (impl_Ledger_idOf.calls (x0 := x0) (x1 := x1) (HM.rd hp0_0) (HM.rd hp0_1) h1522)) ?_
    rintro _ w1523 ⟨rfl, hn⟩
    replace HM : Mem w [] w1523 [box b1508 55 [.int .i64 0, .int .i64 0], box b1505 69 [p0_0, p0_1]] := HM.call hn
    refine ops_ex rfl (guard_none rfl) rfl rfl (ex_assign rfl rfl) ?_
    refine ops_nil ?_
    refine at_then ?_
    refine run_seq ?_
    refine run_seq ?_
    refine run_region rfl ?_
    refine ops_ex rfl (guard_none rfl) rfl rfl (ex_move rfl rfl) ?_
    refine ops_ex rfl (guard_none rfl) rfl rfl (ex_eql rfl rfl rfl) ?_
    refine ops_nil ?_
    refine at_then ?_
    refine run_cond (b := (t1521 == 0)) rfl (fun hb1524 => ?_) (fun hb1524 => ?_)
    · replace H := cond_t hb1524 H
      refine run_seq ?_
      refine run_region rfl ?_
      refine ops_ex rfl (guard_none rfl) rfl rfl (ex_build (cells := #[(.int .i64 4), (.int .i64 0)]) rfl rfl (by kernel_rfl)) ?_
      refine ops_doesS rfl (guard_none rfl) rfl (does_store (vs := [.int .i64 4, .int .i64 0]) (cs' := [.int .i64 4, .int .i64 0]) rfl rfl rfl rfl tsz55 (Ones.int (Ones.int Ones.nil)) rfl rfl HM) ?_
      rintro w1525 HM
      refine ops_nil ?_
      refine at_then ?_
      refine run_ret ?_
      refine at_then_ret ?_
      replace HM := (HM.front 1 rfl rfl).drop
      have hcb0 := HM.box_at 0 rfl
      replace HM := (HM.front 0 rfl rfl).drop
      have hR := Option.some.inj H
      subst hR
      exact at_retN rfl rfl Try.underlying55 rfl tsz55 rfl hcb0 ⟨_, rfl, rfl, HM⟩
    · replace H := cond_f hb1524 H
      refine run_skip ?_
      refine at_then ?_
      refine run_seq ?_
      refine run_region rfl ?_
      refine ops_ex rfl (guard_none rfl) rfl rfl (ex_move rfl rfl) ?_
      refine ops_ex rfl (guard_none rfl) rfl rfl (ex_build (cells := #[(.int .i64 0), (.int .i64 t1521)]) rfl rfl (by kernel_rfl)) ?_
      refine ops_doesS rfl (guard_none rfl) rfl (does_store (vs := [.int .i64 0, .int .i64 t1521]) (cs' := [.int .i64 0, .int .i64 t1521]) rfl rfl rfl rfl tsz55 (Ones.int (Ones.int Ones.nil)) rfl rfl HM) ?_
      rintro w1526 HM
      refine ops_nil ?_
      refine at_then ?_
      refine run_ret ?_
      replace HM := (HM.front 1 rfl rfl).drop
      have hcb0 := HM.box_at 0 rfl
      replace HM := (HM.front 0 rfl rfl).drop
      have hR := Option.some.inj H
      subst hR
      exact at_retN rfl rfl Try.underlying55 rfl tsz55 rfl hcb0 ⟨_, rfl, rfl, HM⟩
end Go.Proofs.Ytoiacoiccpiciaa.Zk
