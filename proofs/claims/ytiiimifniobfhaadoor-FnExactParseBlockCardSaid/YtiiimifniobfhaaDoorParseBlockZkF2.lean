/- What functions of the program compute, each as a plain function, and that they do. Conditions: as each theorem states them. -/
import Derived.Test.YtiiimifniobfhaaDoorParseBlockZkF1
namespace Go.Proofs.YtiiimifniobfhaaDoor.Zk
open Go Go.RowKit Go.IntWalk Go.Proofs
set_option linter.unusedVariables false
set_option linter.unusedSimpArgs false
set_option maxRecDepth 100000
set_option maxHeartbeats 4000000
def impl_within.f (k : Nat) (x0 : Int) (x1 : Int) (x2 : Int) : Option Bool := some ((decide (x1 ≤ x0)) && (decide (x0 ≤ x2)))
theorem impl_within.calls {k : Nat} {x0 : Int} {x1 : Int} {x2 : Int}  {w : World}  {r : Bool} (H : impl_within.f k x0 x1 x2 = some r) :
    Calls Tryd.prog 61 ([.int .i64 x0, .int .i64 x1, .int .i64 x2] : List Value).toArray w (fun e w_ => ∃ v, e = .returned v ∧ v = (.bool r) ∧ Mem w [] w_ []) := by
  have HM := Mem.start w
  refine calls_run (N := 15) Tryd.func61 rfl rfl rfl rfl ?_
  unfold impl_within.f at H
  refine run_seq ?_
  refine run_region rfl ?_
  refine ops_ex rfl (guard_none rfl) rfl rfl (ex_assign rfl rfl) ?_
  refine ops_nil ?_
  refine at_then ?_
  refine run_seq ?_
  refine run_meet (fun ρ_ w_ => ρ_ = [(6, .bool ((decide (x1 ≤ x0)) && (decide (x0 ≤ x2))))] ∧ Mem w [] w_ []) ?_ ?_
  · skip
    refine run_region rfl ?_
    refine ops_ex rfl (guard_none rfl) rfl rfl (ex_move rfl rfl) ?_
    refine ops_ex rfl (guard_none rfl) rfl rfl (ex_move rfl rfl) ?_
    refine ops_ex rfl (guard_none rfl) rfl rfl (ex_geq rfl rfl rfl) ?_
    refine ops_ex rfl (guard_none rfl) rfl rfl (ex_move rfl rfl) ?_
    refine bool_cases (decide (x1 ≤ x0)) (fun hg1011 => ?_) (fun hg1011 => ?_)
    · skip
      refine ops_ex rfl (guard_on rfl rfl rfl hg1011) rfl rfl (ex_move rfl rfl) ?_
      refine ops_ex rfl (guard_on rfl rfl rfl hg1011) rfl rfl (ex_move rfl rfl) ?_
      refine ops_ex rfl (guard_on rfl rfl rfl hg1011) rfl rfl (ex_leq rfl rfl rfl) ?_
      refine ops_ex (v := .bool ((decide (x1 ≤ x0)) && (decide (x0 ≤ x2)))) rfl (guard_none rfl) rfl rfl (ex_pand_t rfl rfl hg1011 rfl) ?_
      refine ops_ex rfl (guard_none rfl) rfl rfl (ex_assign rfl rfl) ?_
      refine ops_nil ?_
      exact at_meet [(6, .bool ((decide (x1 ≤ x0)) && (decide (x0 ≤ x2))))] ⟨rfl, HM⟩ (Sub.cons rfl Sub.nil)
    · skip
      refine ops_off rfl (guard_off rfl rfl rfl hg1011) rfl rfl ?_
      refine ops_off rfl (guard_off rfl rfl rfl hg1011) rfl rfl ?_
      refine ops_off rfl (guard_off rfl rfl rfl hg1011) rfl rfl ?_
      have hg1012 : ((decide (x1 ≤ x0)) && (decide (x0 ≤ x2))) = false := by simp only [hg1011, Bool.and_true, Bool.true_and, Bool.and_false, Bool.false_and, Bool.or_true, Bool.true_or, Bool.or_false, Bool.false_or, Bool.not_true, Bool.not_false, Bool.not_not]
      refine ops_ex (v := .bool ((decide (x1 ≤ x0)) && (decide (x0 ≤ x2)))) rfl (guard_none rfl) rfl rfl (ex_pand_f rfl rfl hg1011) ?_
      refine ops_ex rfl (guard_none rfl) rfl rfl (ex_assign rfl rfl) ?_
      refine ops_nil ?_
      exact at_meet [(6, .bool ((decide (x1 ≤ x0)) && (decide (x0 ≤ x2))))] ⟨rfl, HM⟩ (Sub.cons rfl Sub.nil)
  · rintro _ w1013 ⟨rfl, HM⟩
    refine at_then ?_
    refine run_ret ?_
    have hR := Option.some.inj H
    subst hR
    exact at_ret1 rfl rfl ⟨_, rfl, rfl, HM⟩

def impl_isKey.f (k : Nat) (x0 : Int) : Option Bool := ((impl_within.f k x0 1 999).bind fun t1020 => some t1020)
theorem impl_isKey.calls {k : Nat} {x0 : Int}  {w : World}  {r : Bool} (H : impl_isKey.f k x0 = some r) :
    Calls Tryd.prog 62 ([.int .i64 x0] : List Value).toArray w (fun e w_ => ∃ v, e = .returned v ∧ v = (.bool r) ∧ Mem w [] w_ []) := by
  have HM := Mem.start w
  refine calls_run (N := 5) Tryd.func62 rfl rfl rfl rfl ?_
  unfold impl_isKey.f at H
  refine run_seq ?_
  refine run_region rfl ?_
  refine ops_ex rfl (guard_none rfl) rfl rfl (ex_assign rfl rfl) ?_
  refine ops_nil ?_
  refine at_then ?_
  refine run_seq ?_
  obtain ⟨t1020, h1021, H⟩ := bind_some H
  refine run_region rfl ?_
  refine ops_ex rfl (guard_none rfl) rfl rfl (ex_move rfl rfl) ?_
  refine ops_does rfl (guard_none rfl) rfl rfl (does_callk rfl callok61 rfl (impl_within.calls (x0 := x0) (x1 := 1) (x2 := 999) h1021)) ?_
  rintro _ w1022 ⟨rfl, hn⟩
  replace HM : Mem w [] w1022 [] := HM.call hn
  refine ops_ex rfl (guard_none rfl) rfl rfl (ex_assign rfl rfl) ?_
  refine ops_nil ?_
  refine at_then ?_
  refine run_ret ?_
  have hR := Option.some.inj H
  subst hR
  exact at_ret1 rfl rfl ⟨_, rfl, rfl, HM⟩

def impl_isId.f (k : Nat) (x0 : Int) : Option Bool := ((impl_within.f k x0 1 60).bind fun t1042 => some t1042)
theorem impl_isId.calls {k : Nat} {x0 : Int}  {w : World}  {r : Bool} (H : impl_isId.f k x0 = some r) :
    Calls Tryd.prog 63 ([.int .i64 x0] : List Value).toArray w (fun e w_ => ∃ v, e = .returned v ∧ v = (.bool r) ∧ Mem w [] w_ []) := by
  have HM := Mem.start w
  refine calls_run (N := 5) Tryd.func63 rfl rfl rfl rfl ?_
  unfold impl_isId.f at H
  refine run_seq ?_
  refine run_region rfl ?_
  refine ops_ex rfl (guard_none rfl) rfl rfl (ex_assign rfl rfl) ?_
  refine ops_nil ?_
  refine at_then ?_
  refine run_seq ?_
  obtain ⟨t1042, h1043, H⟩ := bind_some H
  refine run_region rfl ?_
  refine ops_ex rfl (guard_none rfl) rfl rfl (ex_move rfl rfl) ?_
  refine ops_does rfl (guard_none rfl) rfl rfl (does_callk rfl callok61 rfl (impl_within.calls (x0 := x0) (x1 := 1) (x2 := 60) h1043)) ?_
  rintro _ w1044 ⟨rfl, hn⟩
  replace HM : Mem w [] w1044 [] := HM.call hn
  refine ops_ex rfl (guard_none rfl) rfl rfl (ex_assign rfl rfl) ?_
  refine ops_nil ?_
  refine at_then ?_
  refine run_ret ?_
  have hR := Option.some.inj H
  subst hR
  exact at_ret1 rfl rfl ⟨_, rfl, rfl, HM⟩

def slices_Index_int64.l0 (x0 : List Int) (x1 : Int) : Nat → Int → Option (Int ⊕ Unit)
  | 0, _ => none
  | k + 1, a1089 => (bif (decide (a1089 < (x0.length : Int))) then (chk (idxOk a1089 x0.length) (bif (x1 == (gt x0 a1089)) then some (.inl a1089) else slices_Index_int64.l0 x0 x1 k (wrap64 (a1089 + 1)))) else some (.inr ()))
theorem slices_Index_int64.l0_z (x0 : List Int) (x1 : Int) (a1089 : Int) : slices_Index_int64.l0 x0 x1 0 a1089 = none := rfl
theorem slices_Index_int64.l0_s (x0 : List Int) (x1 : Int) (k : Nat) (a1089 : Int) : slices_Index_int64.l0 x0 x1 (k + 1) a1089 = (bif (decide (a1089 < (x0.length : Int))) then (chk (idxOk a1089 x0.length) (bif (x1 == (gt x0 a1089)) then some (.inl a1089) else slices_Index_int64.l0 x0 x1 k (wrap64 (a1089 + 1)))) else some (.inr ())) := rfl
def slices_Index_int64.f (k : Nat) (x0 : List Int) (x1 : Int) : Option Int := ((slices_Index_int64.l0 x0 x1 k 0).bind fun o1083 => thn o1083 (fun r => some r) (fun _ => some (-1)))
theorem slices_Index_int64.calls {k : Nat} {x0 : List Int} {x1 : Int} {p0 : Value} {w : World} (hp0 : RdS kInt w p0 x0) {r : Int} (H : slices_Index_int64.f k x0 x1 = some r) :
    Calls Tryd.prog 100 ([p0, .int .i64 x1] : List Value).toArray w (fun e w_ => ∃ v, e = .returned v ∧ v = (.int .i64 r) ∧ Mem w [] w_ []) := by
  have HM := Mem.start w
  refine calls_run (N := 19) Tryd.func100 rfl rfl rfl rfl ?_
  unfold slices_Index_int64.f at H
  refine run_seq ?_
  refine run_region rfl ?_
  refine ops_ex rfl (guard_none rfl) rfl rfl (ex_assign rfl rfl) ?_
  refine ops_nil ?_
  refine at_then ?_
  obtain ⟨o1083, ho1084, H⟩ := bind_some H
  refine run_mid (fun ρ_ w_ => Sum.inr () = o1083 ∧ ρ_ = [] ∧ Mem w [] w_ []) ?_ ?_
  · skip
    refine run_seq ?_
    refine run_region rfl ?_
    refine ops_ex rfl (guard_none rfl) rfl rfl (ex_move rfl rfl) ?_
    refine ops_ex rfl (guard_none rfl) rfl rfl (ex_len (d := kInt) (xs := x0) rfl rfl Tryd.underlying38 hp0) ?_
    refine ops_ex rfl (guard_none rfl) rfl rfl (ex_move rfl rfl) ?_
    refine ops_nil ?_
    refine at_then ?_
    refine run_block ?_
    refine run_loop (fun k_ ρ_ w_ => ∃ a1089 : Int, slices_Index_int64.l0 x0 x1 k_ a1089 = some o1083 ∧ ρ_ = [(0, p0), (1, .int .i64 x1), (7, .int .i64 (x0.length : Int)), (8, .int .i64 a1089)] ∧ Mem w [] w_ []) k (ρ1 := [(0, p0), (1, .int .i64 x1), (7, .int .i64 (x0.length : Int)), (8, .int .i64 0)]) ⟨_, ho1084, rfl, HM⟩ (Sub.cons rfl (Sub.cons rfl (Sub.cons rfl (Sub.cons rfl Sub.nil)))) ?_
    clear HM ho1084
    rintro k1094 _ w1095 ⟨a1089, ho1084, rfl, HM⟩
    obtain _ | k1094 := k1094
    · exact nomatch ((slices_Index_int64.l0_z x0 x1 a1089).symm.trans ho1084)
    replace ho1084 := (slices_Index_int64.l0_s x0 x1 k1094 a1089).symm.trans ho1084
    refine run_seq ?_
    refine run_region rfl ?_
    refine ops_ex rfl (guard_none rfl) rfl rfl (ex_lss rfl rfl rfl) ?_
    refine ops_nil ?_
    refine at_then ?_
    refine run_seq ?_
    refine run_cond (b := (decide (a1089 < (x0.length : Int)))) rfl (fun hb1096 => ?_) (fun hb1096 => ?_)
    · replace ho1084 := cond_t hb1096 ho1084
      refine run_skip ?_
      refine at_then ?_
      refine run_seq ?_
      refine run_block ?_
      refine run_seq ?_
      refine run_region rfl ?_
      refine ops_ex rfl (guard_none rfl) rfl rfl (ex_move rfl rfl) ?_
      refine ops_ex rfl (guard_none rfl) rfl rfl (ex_assign rfl rfl) ?_
      refine ops_nil ?_
      refine at_then ?_
      refine run_seq ?_
      obtain ⟨e1097, ho1084⟩ := chk_some ho1084
      refine run_region rfl ?_
      refine ops_ex rfl (guard_none rfl) rfl rfl (ex_move rfl rfl) ?_
      refine ops_ex rfl (guard_none rfl) rfl rfl (ex_move rfl rfl) ?_
      refine ops_ex rfl (guard_none rfl) rfl rfl (ex_move rfl rfl) ?_
      have hc1098 : CellsAt _ (sb p0) (so p0 + (a1089).toNat * 1) [(.int .i64 (gt x0 a1089))] := rd_plain hp0 e1097
      refine ops_ex rfl (guard_none rfl) rfl rfl (ex_indexAddr (d := kInt) rfl rfl rfl Tryd.underlying38 tsz2 hp0 (idx_lo e1097) (idx_hi e1097)) ?_
      refine ops_ex rfl (guard_none rfl) rfl rfl (ex_load1 rfl rfl Tryd.underlying2 rfl ((HM.at_ hc1098) 0 _ rfl)) ?_
      refine ops_ex rfl (guard_none rfl) rfl rfl (ex_eql rfl rfl rfl) ?_
      refine ops_nil ?_
      refine at_then ?_
      refine run_cond (b := (x1 == (gt x0 a1089))) rfl (fun hb1099 => ?_) (fun hb1099 => ?_)
      · replace ho1084 := cond_t hb1099 ho1084
        refine run_seq ?_
        refine run_region rfl ?_
        refine ops_ex rfl (guard_none rfl) rfl rfl (ex_move rfl rfl) ?_
        refine ops_ex rfl (guard_none rfl) rfl rfl (ex_assign rfl rfl) ?_
        refine ops_nil ?_
        refine at_then ?_
        refine run_ret ?_
        refine at_block_ret ?_
        refine at_then_ret ?_
        refine at_then_ret ?_
        refine at_block_ret ?_
        refine at_then_ret ?_
        have hR := Option.some.inj ho1084
        subst hR
        have hT := thn_inl H
        have hR := Option.some.inj hT
        subst hR
        exact at_ret1 rfl rfl ⟨_, rfl, rfl, HM⟩
      · replace ho1084 := cond_f hb1099 ho1084
        refine run_skip ?_
        refine at_block ?_
        refine at_then ?_
        refine run_region rfl ?_
        refine ops_ex rfl (guard_none rfl) rfl rfl (ex_add rfl rfl rfl) ?_
        refine ops_ex rfl (guard_none rfl) rfl rfl (ex_move rfl rfl) ?_
        refine ops_nil ?_
        exact at_again k1094 (ρ1 := [(0, p0), (1, .int .i64 x1), (7, .int .i64 (x0.length : Int)), (8, .int .i64 (wrap64 (a1089 + 1)))]) (Nat.lt_succ_self _) ⟨_, ho1084, rfl, HM⟩ (Sub.cons rfl (Sub.cons rfl (Sub.cons rfl (Sub.cons rfl Sub.nil))))
    · replace ho1084 := cond_f hb1096 ho1084
      refine run_exit ?_
      refine at_then_exit ?_
      refine at_then_exit ?_
      refine at_block_exit ?_
      exact at_mid (ρ' := []) ⟨(Option.some.inj ho1084), rfl, HM⟩ Sub.nil
  · rintro _ w1100 ⟨rfl, rfl, HM⟩
    replace H := (thn_inr H)
    refine run_seq ?_
    refine run_region rfl ?_
    refine ops_ex rfl (guard_none rfl) rfl rfl (ex_assign rfl rfl) ?_
    refine ops_nil ?_
    refine at_then ?_
    refine run_ret ?_
    have hR := Option.some.inj H
    subst hR
    exact at_ret1 rfl rfl ⟨_, rfl, rfl, HM⟩

def slices_Contains_int64.f (k : Nat) (x0 : List Int) (x1 : Int) : Option Bool := ((slices_Index_int64.f k x0 x1).bind fun t1103 => some (decide (0 ≤ t1103)))
theorem slices_Contains_int64.calls {k : Nat} {x0 : List Int} {x1 : Int} {p0 : Value} {w : World} (hp0 : RdS kInt w p0 x0) {r : Bool} (H : slices_Contains_int64.f k x0 x1 = some r) :
    Calls Tryd.prog 64 ([p0, .int .i64 x1] : List Value).toArray w (fun e w_ => ∃ v, e = .returned v ∧ v = (.bool r) ∧ Mem w [] w_ []) := by
  have HM := Mem.start w
  refine calls_run (N := 9) Tryd.func64 rfl rfl rfl rfl ?_
  unfold slices_Contains_int64.f at H
  refine run_seq ?_
  refine run_region rfl ?_
  refine ops_ex rfl (guard_none rfl) rfl rfl (ex_assign rfl rfl) ?_
  refine ops_nil ?_
  refine at_then ?_
  refine run_seq ?_
  obtain ⟨t1103, h1104, H⟩ := bind_some H
  refine run_region rfl ?_
  refine ops_ex rfl (guard_none rfl) rfl rfl (ex_move rfl rfl) ?_
  refine ops_ex rfl (guard_none rfl) rfl rfl (ex_move rfl rfl) ?_
  refine ops_does rfl (guard_none rfl) rfl rfl (does_callk rfl callok100 rfl (slices_Index_int64.calls (x0 := x0) (x1 := x1) (HM.rd hp0) h1104)) ?_
  rintro _ w1105 ⟨rfl, hn⟩
  replace HM : Mem w [] w1105 [] := HM.call hn
  refine ops_ex rfl (guard_none rfl) rfl rfl (ex_geq rfl rfl rfl) ?_
  refine ops_ex rfl (guard_none rfl) rfl rfl (ex_assign rfl rfl) ?_
  refine ops_nil ?_
  refine at_then ?_
  refine run_ret ?_
  have hR := Option.some.inj H
  subst hR
  exact at_ret1 rfl rfl ⟨_, rfl, rfl, HM⟩

def impl_BlockFault.l0 (x0 : Block) : Nat → Int → Option (Int ⊕ Unit)
  | 0, _ => none
  | k + 1, a1242 => (bif (decide (a1242 < (x0.fTxs.length : Int))) then (chk (idxOk a1242 x0.fTxs.length) ((impl_isId.f k (gt x0.fTxs a1242)).bind fun t1267 => (bif !t1267 then some (.inl 3) else (chk (cutOk a1242 x0.fTxs.length) ((slices_Contains_int64.f k (x0.fTxs.take (a1242).toNat) (gt x0.fTxs a1242)).bind fun t1275 => (bif t1275 then some (.inl 7) else impl_BlockFault.l0 x0 k (wrap64 (a1242 + 1)))))))) else some (.inr ()))
theorem impl_BlockFault.l0_z (x0 : Block) (a1242 : Int) : impl_BlockFault.l0 x0 0 a1242 = none := rfl
theorem impl_BlockFault.l0_s (x0 : Block) (k : Nat) (a1242 : Int) : impl_BlockFault.l0 x0 (k + 1) a1242 = (bif (decide (a1242 < (x0.fTxs.length : Int))) then (chk (idxOk a1242 x0.fTxs.length) ((impl_isId.f k (gt x0.fTxs a1242)).bind fun t1267 => (bif !t1267 then some (.inl 3) else (chk (cutOk a1242 x0.fTxs.length) ((slices_Contains_int64.f k (x0.fTxs.take (a1242).toNat) (gt x0.fTxs a1242)).bind fun t1275 => (bif t1275 then some (.inl 7) else impl_BlockFault.l0 x0 k (wrap64 (a1242 + 1)))))))) else some (.inr ())) := rfl
def impl_BlockFault.f (k : Nat) (x0 : Block) : Option Int := ((impl_within.f k x0.fPrev 0 60).bind fun t1157 => ((bif (!(!t1157)) then impl_within.f k x0.fHeight 1 40 else some default).bind fun t1159 => ((bif (!((!t1157) || (!t1159))) then impl_isKey.f k x0.fMiner else some default).bind fun t1161 => (bif (((!t1157) || (!t1159)) || (!t1161)) then some 3 else (bif ((x0.fPrev == 0) != (x0.fHeight == 1)) then some 1 else (bif (decide (6 < (x0.fTxs.length : Int))) then some 2 else ((impl_BlockFault.l0 x0 k 0).bind fun o1224 => thn o1224 (fun r => some r) (fun _ => some 0))))))))
theorem impl_BlockFault.calls {k : Nat} {x0 : Block} {p0_0 : Value} {w : World} (hp0_0 : RdS kInt w p0_0 x0.fTxs) {r : Int} (H : impl_BlockFault.f k x0 = some r) :
    Calls Tryd.prog 28 ([.agg #[(.int .i64 x0.fPrev), (.int .i64 x0.fHeight), (.int .i64 x0.fMiner), p0_0]] : List Value).toArray w (fun e w_ => ∃ v, e = .returned v ∧ v = (.int .i64 r) ∧ Mem w [] w_ []) := by
  have HM := Mem.start w
  refine calls_run (N := 53) Tryd.func28 rfl rfl rfl rfl ?_
  unfold impl_BlockFault.f at H
  refine run_seq ?_
  refine run_region rfl ?_
  refine ops_does rfl (guard_none rfl) rfl rfl (does_box (cs := [.int .i64 x0.fPrev, .int .i64 x0.fHeight, .int .i64 x0.fMiner, p0_0]) rfl rfl rfl HM) ?_
  rintro _ w1147 ⟨b1144, rfl, HM⟩
  refine ops_ex rfl (guard_none rfl) rfl rfl (ex_assign rfl rfl) ?_
  refine ops_nil ?_
  refine at_then ?_
  refine run_seq ?_
  refine run_block ?_
  refine run_seq ?_
  obtain ⟨t1157, h1158, H⟩ := bind_some H
  obtain ⟨t1159, h1160, H⟩ := bind_some H
  obtain ⟨t1161, h1162, H⟩ := bind_some H
  refine run_meet (fun ρ_ w_ => ρ_ = [(1, .pointer (some ⟨b1144, 0, none⟩)), (5, .bool (((!t1157) || (!t1159)) || (!t1161)))] ∧ Mem w [] w_ [box b1144 48 [.int .i64 x0.fPrev, .int .i64 x0.fHeight, .int .i64 x0.fMiner, p0_0]]) ?_ ?_
  · skip
    refine run_region rfl ?_
    refine ops_ex rfl (guard_none rfl) rfl rfl (ex_fieldAddr (off' := 0) rfl rfl Tryd.underlying48 rfl tsz2 rfl) ?_
    refine ops_ex rfl (guard_none rfl) rfl rfl (ex_load1 rfl rfl Tryd.underlying2 rfl ((HM.box_at 0 rfl) 0 _ rfl)) ?_
    refine ops_does rfl (guard_none rfl) rfl rfl (does_callk rfl callok61 rfl (impl_within.calls (x0 := x0.fPrev) (x1 := 0) (x2 := 60) h1158)) ?_
    rintro _ w1163 ⟨rfl, hn⟩
    replace HM : Mem w [] w1163 [box b1144 48 [.int .i64 x0.fPrev, .int .i64 x0.fHeight, .int .i64 x0.fMiner, p0_0]] := HM.call hn
    refine ops_ex rfl (guard_none rfl) rfl rfl (ex_not rfl rfl) ?_
    refine ops_ex rfl (guard_none rfl) rfl rfl (ex_move rfl rfl) ?_
    refine bool_cases (!t1157) (fun hg1164 => ?_) (fun hg1164 => ?_)
    · skip
      refine ops_off rfl (guard_off rfl rfl rfl hg1164) rfl rfl ?_
      refine ops_off rfl (guard_off rfl rfl rfl hg1164) rfl rfl ?_
      refine ops_off rfl (guard_off rfl rfl rfl hg1164) rfl rfl ?_
      refine ops_off rfl (guard_off rfl rfl rfl hg1164) rfl rfl ?_
      have hg1165 : ((!t1157) || (!t1159)) = true := by simp only [hg1164, Bool.and_true, Bool.true_and, Bool.and_false, Bool.false_and, Bool.or_true, Bool.true_or, Bool.or_false, Bool.false_or, Bool.not_true, Bool.not_false, Bool.not_not]
      refine ops_ex (v := .bool ((!t1157) || (!t1159))) rfl (guard_none rfl) rfl rfl (ex_por_t rfl rfl hg1164) ?_
      refine ops_ex rfl (guard_none rfl) rfl rfl (ex_move rfl rfl) ?_
      refine ops_off rfl (guard_off rfl rfl rfl hg1165) rfl rfl ?_
      refine ops_off rfl (guard_off rfl rfl rfl hg1165) rfl rfl ?_
      refine ops_off rfl (guard_off rfl rfl rfl hg1165) rfl rfl ?_
      refine ops_off rfl (guard_off rfl rfl rfl hg1165) rfl rfl ?_
      have hg1166 : (((!t1157) || (!t1159)) || (!t1161)) = true := by simp only [hg1165, Bool.and_true, Bool.true_and, Bool.and_false, Bool.false_and, Bool.or_true, Bool.true_or, Bool.or_false, Bool.false_or, Bool.not_true, Bool.not_false, Bool.not_not]
      refine ops_ex (v := .bool (((!t1157) || (!t1159)) || (!t1161))) rfl (guard_none rfl) rfl rfl (ex_por_t rfl rfl hg1165) ?_
      refine ops_ex rfl (guard_none rfl) rfl rfl (ex_assign rfl rfl) ?_
      refine ops_nil ?_
      exact at_meet [(1, .pointer (some ⟨b1144, 0, none⟩)), (5, .bool (((!t1157) || (!t1159)) || (!t1161)))] ⟨rfl, HM⟩ (Sub.cons rfl (Sub.cons rfl Sub.nil))
    · skip
      refine ops_ex rfl (guard_on rfl rfl rfl hg1164) rfl rfl (ex_fieldAddr (off' := 1) rfl rfl Tryd.underlying48 rfl tsz2 rfl) ?_
      refine ops_ex rfl (guard_on rfl rfl rfl hg1164) rfl rfl (ex_load1 rfl rfl Tryd.underlying2 rfl ((HM.box_at 0 rfl) 1 _ rfl)) ?_
      refine ops_does rfl (guard_on rfl rfl rfl hg1164) rfl rfl (does_callk rfl callok61 rfl (impl_within.calls (x0 := x0.fHeight) (x1 := 1) (x2 := 40) (cond_t (not_mk hg1164) h1160))) ?_
      rintro _ w1167 ⟨rfl, hn⟩
      replace HM : Mem w [] w1167 [box b1144 48 [.int .i64 x0.fPrev, .int .i64 x0.fHeight, .int .i64 x0.fMiner, p0_0]] := HM.call hn
      refine ops_ex rfl (guard_on rfl rfl rfl hg1164) rfl rfl (ex_not rfl rfl) ?_
      refine ops_ex (v := .bool ((!t1157) || (!t1159))) rfl (guard_none rfl) rfl rfl (ex_por_f rfl rfl hg1164 rfl) ?_
      refine ops_ex rfl (guard_none rfl) rfl rfl (ex_move rfl rfl) ?_
      refine bool_cases ((!t1157) || (!t1159)) (fun hg1168 => ?_) (fun hg1168 => ?_)
      · skip
        refine ops_off rfl (guard_off rfl rfl rfl hg1168) rfl rfl ?_
        refine ops_off rfl (guard_off rfl rfl rfl hg1168) rfl rfl ?_
        refine ops_off rfl (guard_off rfl rfl rfl hg1168) rfl rfl ?_
        refine ops_off rfl (guard_off rfl rfl rfl hg1168) rfl rfl ?_
        have hg1169 : (((!t1157) || (!t1159)) || (!t1161)) = true := by simp only [hg1168, Bool.and_true, Bool.true_and, Bool.and_false, Bool.false_and, Bool.or_true, Bool.true_or, Bool.or_false, Bool.false_or, Bool.not_true, Bool.not_false, Bool.not_not]
        refine ops_ex (v := .bool (((!t1157) || (!t1159)) || (!t1161))) rfl (guard_none rfl) rfl rfl (ex_por_t rfl rfl hg1168) ?_
        refine ops_ex rfl (guard_none rfl) rfl rfl (ex_assign rfl rfl) ?_
        refine ops_nil ?_
        exact at_meet [(1, .pointer (some ⟨b1144, 0, none⟩)), (5, .bool (((!t1157) || (!t1159)) || (!t1161)))] ⟨rfl, HM⟩ (Sub.cons rfl (Sub.cons rfl Sub.nil))
      · skip
        refine ops_ex rfl (guard_on rfl rfl rfl hg1168) rfl rfl (ex_fieldAddr (off' := 2) rfl rfl Tryd.underlying48 rfl tsz2 rfl) ?_
        refine ops_ex rfl (guard_on rfl rfl rfl hg1168) rfl rfl (ex_load1 rfl rfl Tryd.underlying2 rfl ((HM.box_at 0 rfl) 2 _ rfl)) ?_
        refine ops_does rfl (guard_on rfl rfl rfl hg1168) rfl rfl (does_callk rfl callok62 rfl (impl_isKey.calls (x0 := x0.fMiner) (cond_t (not_mk hg1168) h1162))) ?_
        rintro _ w1170 ⟨rfl, hn⟩
        replace HM : Mem w [] w1170 [box b1144 48 [.int .i64 x0.fPrev, .int .i64 x0.fHeight, .int .i64 x0.fMiner, p0_0]] := HM.call hn
        refine ops_ex rfl (guard_on rfl rfl rfl hg1168) rfl rfl (ex_not rfl rfl) ?_
        refine ops_ex (v := .bool (((!t1157) || (!t1159)) || (!t1161))) rfl (guard_none rfl) rfl rfl (ex_por_f rfl rfl hg1168 rfl) ?_
        refine ops_ex rfl (guard_none rfl) rfl rfl (ex_assign rfl rfl) ?_
        refine ops_nil ?_
        exact at_meet [(1, .pointer (some ⟨b1144, 0, none⟩)), (5, .bool (((!t1157) || (!t1159)) || (!t1161)))] ⟨rfl, HM⟩ (Sub.cons rfl (Sub.cons rfl Sub.nil))
  · rintro _ w1171 ⟨rfl, HM⟩
    refine at_then ?_
    refine run_cond (b := (((!t1157) || (!t1159)) || (!t1161))) rfl (fun hb1172 => ?_) (fun hb1172 => ?_)
    · replace H := cond_t hb1172 H
      refine run_seq ?_
      refine run_region rfl ?_
      refine ops_ex rfl (guard_none rfl) rfl rfl (ex_assign rfl rfl) ?_
      refine ops_nil ?_
      refine at_then ?_
      refine run_ret ?_
      refine at_block_ret ?_
      refine at_then_ret ?_
      replace HM := (HM.front 0 rfl rfl).drop
      have hR := Option.some.inj H
      subst hR
      exact at_ret1 rfl rfl ⟨_, rfl, rfl, HM⟩
    · replace H := cond_f hb1172 H
      refine run_seq ?_
      refine run_region rfl ?_
      refine ops_ex rfl (guard_none rfl) rfl rfl (ex_fieldAddr (off' := 0) rfl rfl Tryd.underlying48 rfl tsz2 rfl) ?_
      refine ops_ex rfl (guard_none rfl) rfl rfl (ex_load1 rfl rfl Tryd.underlying2 rfl ((HM.box_at 0 rfl) 0 _ rfl)) ?_
      refine ops_ex rfl (guard_none rfl) rfl rfl (ex_eql rfl rfl rfl) ?_
      refine ops_ex rfl (guard_none rfl) rfl rfl (ex_fieldAddr (off' := 1) rfl rfl Tryd.underlying48 rfl tsz2 rfl) ?_
      refine ops_ex rfl (guard_none rfl) rfl rfl (ex_load1 rfl rfl Tryd.underlying2 rfl ((HM.box_at 0 rfl) 1 _ rfl)) ?_
      refine ops_ex rfl (guard_none rfl) rfl rfl (ex_eql rfl rfl rfl) ?_
      refine ops_ex rfl (guard_none rfl) rfl rfl (ex_bneq rfl rfl rfl Tryd.underlying4) ?_
      refine ops_ex rfl (guard_none rfl) rfl rfl (ex_assign rfl rfl) ?_
      refine ops_nil ?_
      refine at_then ?_
      refine run_cond (b := ((x0.fPrev == 0) != (x0.fHeight == 1))) rfl (fun hb1173 => ?_) (fun hb1173 => ?_)
      · replace H := cond_t hb1173 H
        refine run_seq ?_
        refine run_region rfl ?_
        refine ops_ex rfl (guard_none rfl) rfl rfl (ex_assign rfl rfl) ?_
        refine ops_nil ?_
        refine at_then ?_
        refine run_ret ?_
        refine at_block_ret ?_
        refine at_then_ret ?_
        replace HM := (HM.front 0 rfl rfl).drop
        have hR := Option.some.inj H
        subst hR
        exact at_ret1 rfl rfl ⟨_, rfl, rfl, HM⟩
      · replace H := cond_f hb1173 H
        refine run_seq ?_
        refine run_region rfl ?_
        refine ops_ex rfl (guard_none rfl) rfl rfl (ex_fieldAddr (off' := 3) rfl rfl Tryd.underlying48 rfl tsz38 rfl) ?_
        refine ops_ex rfl (guard_none rfl) rfl rfl (ex_load1 rfl rfl Tryd.underlying38 rfl ((HM.box_at 0 rfl) 3 _ rfl)) ?_
        refine ops_ex rfl (guard_none rfl) rfl rfl (ex_len (d := kInt) (xs := x0.fTxs) rfl rfl Tryd.underlying38 hp0_0) ?_
        refine ops_ex rfl (guard_none rfl) rfl rfl (ex_gtr rfl rfl rfl) ?_
        refine ops_ex rfl (guard_none rfl) rfl rfl (ex_assign rfl rfl) ?_
        refine ops_nil ?_
        refine at_then ?_
        refine run_cond (b := (decide (6 < (x0.fTxs.length : Int)))) rfl (fun hb1174 => ?_) (fun hb1174 => ?_)
        · replace H := cond_t hb1174 H
          refine run_seq ?_
          refine run_region rfl ?_
          refine ops_ex rfl (guard_none rfl) rfl rfl (ex_assign rfl rfl) ?_
          refine ops_nil ?_
          refine at_then ?_
          refine run_ret ?_
          refine at_block_ret ?_
          refine at_then_ret ?_
          replace HM := (HM.front 0 rfl rfl).drop
          have hR := Option.some.inj H
          subst hR
          exact at_ret1 rfl rfl ⟨_, rfl, rfl, HM⟩
        · replace H := cond_f hb1174 H
          refine run_skip ?_
          refine at_block ?_
          refine at_then ?_
          obtain ⟨o1224, ho1225, H⟩ := bind_some H
          refine run_mid (fun ρ_ w_ => Sum.inr () = o1224 ∧ ρ_ = [] ∧ Mem w [] w_ []) ?_ ?_
          · skip
            refine run_seq ?_
            refine run_region rfl ?_
            refine ops_ex rfl (guard_none rfl) rfl rfl (ex_fieldAddr (off' := 3) rfl rfl Tryd.underlying48 rfl tsz38 rfl) ?_
            refine ops_ex rfl (guard_none rfl) rfl rfl (ex_load1 rfl rfl Tryd.underlying38 rfl ((HM.box_at 0 rfl) 3 _ rfl)) ?_
            refine ops_ex rfl (guard_none rfl) rfl rfl (ex_len (d := kInt) (xs := x0.fTxs) rfl rfl Tryd.underlying38 hp0_0) ?_
            refine ops_ex rfl (guard_none rfl) rfl rfl (ex_move rfl rfl) ?_
            refine ops_nil ?_
            refine at_then ?_
            refine run_block ?_
            refine run_loop (fun k_ ρ_ w_ => ∃ a1242 : Int, impl_BlockFault.l0 x0 k_ a1242 = some o1224 ∧ ρ_ = [(1, .pointer (some ⟨b1144, 0, none⟩)), (36, p0_0), (37, .int .i64 (x0.fTxs.length : Int)), (38, .int .i64 a1242)] ∧ Mem w [] w_ [box b1144 48 [.int .i64 x0.fPrev, .int .i64 x0.fHeight, .int .i64 x0.fMiner, p0_0]]) k (ρ1 := [(1, .pointer (some ⟨b1144, 0, none⟩)), (36, p0_0), (37, .int .i64 (x0.fTxs.length : Int)), (38, .int .i64 0)]) ⟨_, ho1225, rfl, HM⟩ (Sub.cons rfl (Sub.cons rfl (Sub.cons rfl (Sub.cons rfl Sub.nil)))) ?_
            clear HM ho1225
            rintro k1259 _ w1260 ⟨a1242, ho1225, rfl, HM⟩
            obtain _ | k1259 := k1259
            · exact nomatch ((impl_BlockFault.l0_z x0 a1242).symm.trans ho1225)
            replace ho1225 := (impl_BlockFault.l0_s x0 k1259 a1242).symm.trans ho1225
            refine run_seq ?_
            refine run_region rfl ?_
            refine ops_ex rfl (guard_none rfl) rfl rfl (ex_lss rfl rfl rfl) ?_
            refine ops_nil ?_
            refine at_then ?_
            refine run_seq ?_
            refine run_cond (b := (decide (a1242 < (x0.fTxs.length : Int)))) rfl (fun hb1261 => ?_) (fun hb1261 => ?_)
            · replace ho1225 := cond_t hb1261 ho1225
              refine run_skip ?_
              refine at_then ?_
              refine run_seq ?_
              refine run_block ?_
              refine run_seq ?_
              obtain ⟨e1262, ho1225⟩ := chk_some ho1225
              refine run_region rfl ?_
              refine ops_ex rfl (guard_none rfl) rfl rfl (ex_move rfl rfl) ?_
              have hc1263 : CellsAt _ (sb p0_0) (so p0_0 + (a1242).toNat * 1) [(.int .i64 (gt x0.fTxs a1242))] := rd_plain hp0_0 e1262
              refine ops_ex rfl (guard_none rfl) rfl rfl (ex_indexAddr (d := kInt) rfl rfl rfl Tryd.underlying38 tsz2 hp0_0 (idx_lo e1262) (idx_hi e1262)) ?_
              refine ops_ex rfl (guard_none rfl) rfl rfl (ex_load1 rfl rfl Tryd.underlying2 rfl ((HM.at_ hc1263) 0 _ rfl)) ?_
              refine ops_ex rfl (guard_none rfl) rfl rfl (ex_assign rfl rfl) ?_
              refine ops_ex rfl (guard_none rfl) rfl rfl (ex_assign rfl rfl) ?_
              refine ops_nil ?_
              refine at_then ?_
              refine run_seq ?_
              refine run_seq ?_
              obtain ⟨t1267, h1268, ho1225⟩ := bind_some ho1225
              refine run_region rfl ?_
              refine ops_ex rfl (guard_none rfl) rfl rfl (ex_move rfl rfl) ?_
              refine ops_does rfl (guard_none rfl) rfl rfl (does_callk rfl callok63 rfl (impl_isId.calls (x0 := (gt x0.fTxs a1242)) h1268)) ?_
              rintro _ w1269 ⟨rfl, hn⟩
              replace HM : Mem w [] w1269 [box b1144 48 [.int .i64 x0.fPrev, .int .i64 x0.fHeight, .int .i64 x0.fMiner, p0_0]] := HM.call hn
              refine ops_ex rfl (guard_none rfl) rfl rfl (ex_not rfl rfl) ?_
              refine ops_nil ?_
              refine at_then ?_
              refine run_cond (b := !t1267) rfl (fun hb1270 => ?_) (fun hb1270 => ?_)
              · replace ho1225 := cond_t hb1270 ho1225
                refine run_seq ?_
                refine run_region rfl ?_
                refine ops_ex rfl (guard_none rfl) rfl rfl (ex_assign rfl rfl) ?_
                refine ops_nil ?_
                refine at_then ?_
                refine run_ret ?_
                refine at_then_ret ?_
                refine at_block_ret ?_
                refine at_then_ret ?_
                refine at_then_ret ?_
                refine at_block_ret ?_
                refine at_then_ret ?_
                replace HM := (HM.front 0 rfl rfl).drop
                have hR := Option.some.inj ho1225
                subst hR
                have hT := thn_inl H
                have hR := Option.some.inj hT
                subst hR
                exact at_ret1 rfl rfl ⟨_, rfl, rfl, HM⟩
              · replace ho1225 := cond_f hb1270 ho1225
                refine run_skip ?_
                refine at_then ?_
                refine run_seq ?_
                obtain ⟨e1271, ho1225⟩ := chk_some ho1225
                obtain ⟨t1275, h1276, ho1225⟩ := bind_some ho1225
                refine run_region rfl ?_
                refine ops_ex rfl (guard_none rfl) rfl rfl (ex_fieldAddr (off' := 3) rfl rfl Tryd.underlying48 rfl tsz38 rfl) ?_
                refine ops_ex rfl (guard_none rfl) rfl rfl (ex_load1 rfl rfl Tryd.underlying38 rfl ((HM.box_at 0 rfl) 3 _ rfl)) ?_
                refine ops_ex rfl (guard_none rfl) rfl rfl (ex_move rfl rfl) ?_
                refine ops_exE rfl (guard_none rfl) rfl rfl (ex_cutH kInt rfl rfl rfl Tryd.underlying38 tsz2 hp0_0 e1271) ?_
                rintro u1272 hr1274
                refine ops_ex rfl (guard_none rfl) rfl rfl (ex_move rfl rfl) ?_
                refine ops_does rfl (guard_none rfl) rfl rfl (does_callk rfl callok64 rfl (slices_Contains_int64.calls (x0 := x0.fTxs.take (a1242).toNat) (x1 := (gt x0.fTxs a1242)) (HM.rd hr1274) h1276)) ?_
                rintro _ w1277 ⟨rfl, hn⟩
                replace HM : Mem w [] w1277 [box b1144 48 [.int .i64 x0.fPrev, .int .i64 x0.fHeight, .int .i64 x0.fMiner, p0_0]] := HM.call hn
                refine ops_nil ?_
                refine at_then ?_
                refine run_cond (b := t1275) rfl (fun hb1278 => ?_) (fun hb1278 => ?_)
                · replace ho1225 := cond_t hb1278 ho1225
                  refine run_seq ?_
                  refine run_region rfl ?_
                  refine ops_ex rfl (guard_none rfl) rfl rfl (ex_assign rfl rfl) ?_
                  refine ops_nil ?_
                  refine at_then ?_
                  refine run_ret ?_
                  refine at_block_ret ?_
                  refine at_then_ret ?_
                  refine at_then_ret ?_
                  refine at_block_ret ?_
                  refine at_then_ret ?_
                  replace HM := (HM.front 0 rfl rfl).drop
                  have hR := Option.some.inj ho1225
                  subst hR
                  have hT := thn_inl H
                  have hR := Option.some.inj hT
                  subst hR
                  exact at_ret1 rfl rfl ⟨_, rfl, rfl, HM⟩
                · replace ho1225 := cond_f hb1278 ho1225
                  refine run_skip ?_
                  refine at_block ?_
                  refine at_then ?_
                  refine run_region rfl ?_
                  refine ops_ex rfl (guard_none rfl) rfl rfl (ex_add rfl rfl rfl) ?_
                  refine ops_ex rfl (guard_none rfl) rfl rfl (ex_move rfl rfl) ?_
                  refine ops_nil ?_
                  exact at_again k1259 (ρ1 := [(1, .pointer (some ⟨b1144, 0, none⟩)), (36, p0_0), (37, .int .i64 (x0.fTxs.length : Int)), (38, .int .i64 (wrap64 (a1242 + 1)))]) (Nat.lt_succ_self _) ⟨_, ho1225, rfl, HM⟩ (Sub.cons rfl (Sub.cons rfl (Sub.cons rfl (Sub.cons rfl Sub.nil))))
            · replace ho1225 := cond_f hb1261 ho1225
              refine run_exit ?_
              refine at_then_exit ?_
              refine at_then_exit ?_
              refine at_block_exit ?_
              replace HM := (HM.front 0 rfl rfl).drop
              exact at_mid (ρ' := []) ⟨(Option.some.inj ho1225), rfl, HM⟩ Sub.nil
          · rintro _ w1279 ⟨rfl, rfl, HM⟩
            replace H := (thn_inr H)
            refine run_seq ?_
            refine run_region rfl ?_
            refine ops_ex rfl (guard_none rfl) rfl rfl (ex_assign rfl rfl) ?_
            refine ops_nil ?_
            refine at_then ?_
            refine run_ret ?_
            have hR := Option.some.inj H
            subst hR
            exact at_ret1 rfl rfl ⟨_, rfl, rfl, HM⟩

def strings_Join.f (k : Nat) (x0 : List ByteArray) (x1 : ByteArray) : Option ByteArray := (chk (leB x0.length 140737488355328 && leB (Lib.join (x0.map (·.data.toList)) x1.data.toList).length 140737488355328) (some (⟨(Lib.join (x0.map (·.data.toList)) x1.data.toList).toArray⟩ : ByteArray)))
theorem strings_Join.calls {k : Nat} {x0 : List ByteArray} {x1 : ByteArray} {p0 : Value} {w : World} (hp0 : RdS kStr w p0 x0) {r : ByteArray} (H : strings_Join.f k x0 x1 = some r) :
    Calls Tryd.prog 84 ([p0, .string x1] : List Value).toArray w (fun e w_ => ∃ v, e = .returned v ∧ v = (.string r) ∧ Mem w [] w_ []) := by
  obtain ⟨h, H⟩ := chk_some H
  have hR := Option.some.inj H
  subst hR
  rw [Bool.and_eq_true] at h
  have hm : ∀ w_, Below w.heap.size w w_ → Mem w [] w_ [] := fun w_ hb => ⟨Fr.of_below hb, [], .nil, List.nodup_nil, by simp⟩
  obtain ⟨A, c, rfl, hc, hA⟩ := hp0
  rcases hA with rfl | ⟨b, o, rfl, hA⟩
  · exact (Tryd.strings_Join_none A c x1 w).mono fun e w_ ⟨he, hw⟩ => ⟨_, he, rfl, hm _ (hw ▸ Below.refl _ _)⟩
  · cases hx : x0 with
    | nil => subst hx; exact (Tryd.strings_Join_none _ c x1 w).mono fun e w_ ⟨he, hw⟩ => ⟨_, he, rfl, hm _ (hw ▸ Below.refl _ _)⟩
    | cons a l =>
      rw [← hx]
      have hcell : ∀ (j : Nat) x, x0[j]? = some x → w.cell? ⟨b, o + j, none⟩ = some (.string x) := fun j x hj => by
        obtain ⟨hlt, e1⟩ := List.getElem?_eq_some_iff.1 hj
        obtain ⟨cs, h2, h3⟩ := hA j hlt
        have h2' : cs = [Value.string x0[j]] := h2
        subst h2'
        have h4 : w.cell? ⟨b, o + j * 1 + 0, none⟩ = some (.string x0[j]) := h3 0 _ rfl
        rw [e1] at h4
        simpa using h4
      exact (Tryd.strings_Join b o c x0 x1 w hcell (World.block_lt_of_cell? w _ (hcell 0 a (by rw [hx]; rfl))) (leB_le h.1) hc (leB_le h.2)).mono fun e w_ ⟨he, hw⟩ => ⟨_, he, rfl, hm _ hw⟩

def impl_joined.l0 (x0 : List Int) : Nat → (List ByteArray) → Int → Option ((List ByteArray))
  | 0, _, _ => none
  | k + 1, a1391, a1393 => (bif (decide (a1393 < (x0.length : Int))) then (chk (idxOk a1393 x0.length) ((impl_dec.f k (gt x0 a1393)).bind fun t1410 => (chk (leB ((a1391.length + ([t1410] : List ByteArray).length) * 16) 140737488355328) (impl_joined.l0 x0 k (a1391 ++ ([t1410] : List ByteArray)) (wrap64 (a1393 + 1)))))) else some a1391)
theorem impl_joined.l0_z (x0 : List Int) (a1391 : List ByteArray) (a1393 : Int) : impl_joined.l0 x0 0 a1391 a1393 = none := rfl
theorem impl_joined.l0_s (x0 : List Int) (k : Nat) (a1391 : List ByteArray) (a1393 : Int) : impl_joined.l0 x0 (k + 1) a1391 a1393 = (bif (decide (a1393 < (x0.length : Int))) then (chk (idxOk a1393 x0.length) ((impl_dec.f k (gt x0 a1393)).bind fun t1410 => (chk (leB ((a1391.length + ([t1410] : List ByteArray).length) * 16) 140737488355328) (impl_joined.l0 x0 k (a1391 ++ ([t1410] : List ByteArray)) (wrap64 (a1393 + 1)))))) else some a1391) := rfl
def impl_joined.f (k : Nat) (x0 : List Int) (x1 : ByteArray) : Option ByteArray := ((impl_joined.l0 x0 k ([] : List ByteArray) 0).bind (fun a1375 => ((strings_Join.f k a1375 x1).bind fun t1422 => some t1422)))
theorem impl_joined.calls {k : Nat} {x0 : List Int} {x1 : ByteArray} {p0 : Value} {w : World} (htab : TabP w) (hp0 : RdS kInt w p0 x0) {r : ByteArray} (H : impl_joined.f k x0 x1 = some r) :
    Calls Tryd.prog 99 ([p0, .string x1] : List Value).toArray w (fun e w_ => ∃ v, e = .returned v ∧ v = (.string r) ∧ Mem w [] w_ []) := by
  have HM := Mem.start w
  refine calls_run (N := 24) Tryd.func99 rfl rfl rfl rfl ?_
  unfold impl_joined.f at H
  refine run_seq ?_
  refine run_region rfl ?_
  refine ops_ex rfl (guard_none rfl) rfl rfl (ex_assign rfl rfl) ?_
  refine ops_nil ?_
  refine at_then ?_
  refine run_seq ?_
  refine run_region rfl ?_
  refine ops_does rfl (guard_none rfl) rfl rfl (does_lit (e := 9) (cs := []) (xs := ([] : List ByteArray)) kStr rfl rfl (fun _ => by kernel_rfl) rfl rfl (fun _ _ h => by have h' : _ = [] := h; subst h'; exact .nil) HM.emp) ?_
  rintro v1333 w1336 HM
  refine ops_ex rfl (guard_none rfl) rfl rfl (ex_assign rfl rfl) ?_
  refine ops_nil ?_
  refine at_then ?_
  obtain ⟨o1377, ho1378, H⟩ := bind_some H
  refine run_mid (fun ρ_ w_ => ∃ v1374 : Value, ∃ a1375 : List ByteArray, a1375 = o1377 ∧ ρ_ = [(1, .string x1), (5, v1374)] ∧ Mem w [] w_ [own kStr 9 v1374 a1375]) ?_ ?_
  · clear H
    refine run_seq ?_
    refine run_region rfl ?_
    refine ops_ex rfl (guard_none rfl) rfl rfl (ex_move rfl rfl) ?_
    refine ops_ex rfl (guard_none rfl) rfl rfl (ex_len (d := kInt) (xs := x0) rfl rfl Tryd.underlying38 hp0) ?_
    refine ops_ex rfl (guard_none rfl) rfl rfl (ex_move rfl rfl) ?_
    refine ops_nil ?_
    refine at_then ?_
    refine run_block ?_
    refine run_loop (fun k_ ρ_ w_ => ∃ v1390 : Value, ∃ a1391 : List ByteArray, ∃ a1393 : Int, impl_joined.l0 x0 k_ a1391 a1393 = some o1377 ∧ ρ_ = [(1, .string x1), (5, v1390), (9, p0), (10, .int .i64 (x0.length : Int)), (11, .int .i64 a1393)] ∧ Mem w [] w_ [own kStr 9 v1390 a1391]) k (ρ1 := [(1, .string x1), (5, v1333), (9, p0), (10, .int .i64 (x0.length : Int)), (11, .int .i64 0)]) ⟨_, _, _, ho1378, rfl, HM⟩ (Sub.cons rfl (Sub.cons rfl (Sub.cons rfl (Sub.cons rfl (Sub.cons rfl Sub.nil))))) ?_
    clear HM ho1378
    rintro k1405 _ w1406 ⟨v1390, a1391, a1393, ho1378, rfl, HM⟩
    obtain _ | k1405 := k1405
    · exact nomatch ((impl_joined.l0_z x0 a1391 a1393).symm.trans ho1378)
    replace ho1378 := (impl_joined.l0_s x0 k1405 a1391 a1393).symm.trans ho1378
    refine run_seq ?_
    refine run_region rfl ?_
    refine ops_ex rfl (guard_none rfl) rfl rfl (ex_lss rfl rfl rfl) ?_
    refine ops_nil ?_
    refine at_then ?_
    refine run_seq ?_
    refine run_cond (b := (decide (a1393 < (x0.length : Int)))) rfl (fun hb1407 => ?_) (fun hb1407 => ?_)
    · replace ho1378 := cond_t hb1407 ho1378
      refine run_skip ?_
      refine at_then ?_
      refine run_seq ?_
      refine run_block ?_
      refine run_seq ?_
      obtain ⟨e1408, ho1378⟩ := chk_some ho1378
      refine run_region rfl ?_
      have hc1409 : CellsAt _ (sb p0) (so p0 + (a1393).toNat * 1) [(.int .i64 (gt x0 a1393))] := rd_plain hp0 e1408
      refine ops_ex rfl (guard_none rfl) rfl rfl (ex_indexAddr (d := kInt) rfl rfl rfl Tryd.underlying38 tsz2 hp0 (idx_lo e1408) (idx_hi e1408)) ?_
      refine ops_ex rfl (guard_none rfl) rfl rfl (ex_load1 rfl rfl Tryd.underlying2 rfl ((HM.at_ hc1409) 0 _ rfl)) ?_
      refine ops_ex rfl (guard_none rfl) rfl rfl (ex_assign rfl rfl) ?_
      refine ops_nil ?_
      refine at_then ?_
      obtain ⟨t1410, h1411, ho1378⟩ := bind_some ho1378
      obtain ⟨e1415, ho1378⟩ := chk_some ho1378
      refine run_region rfl ?_
      refine ops_ex rfl (guard_none rfl) rfl rfl (ex_move rfl rfl) ?_
      refine ops_ex rfl (guard_none rfl) rfl rfl (ex_move rfl rfl) ?_
      refine ops_does rfl (guard_none rfl) rfl rfl (does_callk rfl callok83 rfl (impl_dec.calls (x0 := (gt x0 a1393)) (HM.tabP htab) h1411)) ?_
      rintro _ w1418 ⟨rfl, hn⟩
      replace HM : Mem w [] w1418 [own kStr 9 v1390 a1391] := HM.call hn
      refine ops_does rfl (guard_none rfl) rfl rfl (does_lit (e := 9) (cs := [.string t1410]) (xs := ([t1410] : List ByteArray)) kStr rfl rfl (fun _ => by kernel_rfl) rfl rfl (fun _ _ h => by have h' : _ = [] := h; subst h'; exact (Elems.cons (d := kStr) (f := []) ⟨rfl, rfl⟩ .nil)) HM.emp) ?_
      rintro v1412 w1419 HM
      replace HM := HM.front 1 rfl rfl
      refine ops_does rfl (guard_none rfl) rfl rfl (does_appendR kStr flat_plain rfl rfl rfl Tryd.underlying107 tsz9 rfl tby9 tz9 rfl rfl (leB_le e1415) (HM.own_rd 1 rfl) HM) ?_
      rintro v1416 w1420 HM
      refine ops_ex rfl (guard_none rfl) rfl rfl (ex_assign rfl rfl) ?_
      refine ops_nil ?_
      refine at_block ?_
      refine at_then ?_
      refine run_region rfl ?_
      refine ops_ex rfl (guard_none rfl) rfl rfl (ex_add rfl rfl rfl) ?_
      refine ops_ex rfl (guard_none rfl) rfl rfl (ex_move rfl rfl) ?_
      refine ops_nil ?_
      replace HM := (HM.front 1 rfl rfl).drop
      exact at_again k1405 (ρ1 := [(1, .string x1), (5, v1416), (9, p0), (10, .int .i64 (x0.length : Int)), (11, .int .i64 (wrap64 (a1393 + 1)))]) (Nat.lt_succ_self _) ⟨_, _, _, ho1378, rfl, HM⟩ (Sub.cons rfl (Sub.cons rfl (Sub.cons rfl (Sub.cons rfl (Sub.cons rfl Sub.nil)))))
    · replace ho1378 := cond_f hb1407 ho1378
      refine run_exit ?_
      refine at_then_exit ?_
      refine at_then_exit ?_
      refine at_block_exit ?_
      exact at_mid (ρ' := [(1, .string x1), (5, v1390)]) ⟨_, _, (Option.some.inj ho1378), rfl, HM⟩ (Sub.cons rfl (Sub.cons rfl Sub.nil))
  · rintro _ w1421 ⟨v1374, a1375, rfl, rfl, HM⟩
    refine run_seq ?_
    obtain ⟨t1422, h1423, H⟩ := bind_some H
    refine run_region rfl ?_
    refine ops_ex rfl (guard_none rfl) rfl rfl (ex_move rfl rfl) ?_
    refine ops_ex rfl (guard_none rfl) rfl rfl (ex_move rfl rfl) ?_
    refine ops_does rfl (guard_none rfl) rfl rfl (does_callk rfl callok84 rfl (strings_Join.calls (x0 := a1375) (x1 := x1) (HM.own_rd 0 rfl) h1423)) ?_
    rintro _ w1424 ⟨rfl, hn⟩
    replace HM : Mem w [] w1424 [own kStr 9 v1374 a1375] := HM.call hn
    refine ops_ex rfl (guard_none rfl) rfl rfl (ex_assign rfl rfl) ?_
    refine ops_nil ?_
    refine at_then ?_
    refine run_ret ?_
    replace HM := (HM.front 0 rfl rfl).drop
    have hR := Option.some.inj H
    subst hR
    exact at_ret1 rfl rfl ⟨_, rfl, rfl, HM⟩

def impl_blockText.f (k : Nat) (x0 : Block) : Option ByteArray := ((bif (decide (0 < (x0.fTxs.length : Int))) then ((impl_joined.f k x0.fTxs (⟨#[43]⟩ : ByteArray)).bind fun t1455 => some t1455) else some (⟨#[45]⟩ : ByteArray)).bind (fun a1451 => ((impl_joined.f k ([x0.fPrev, x0.fHeight, x0.fMiner] : List Int) (⟨#[32]⟩ : ByteArray)).bind fun t1462 => (chk (leB ((⟨#[98, 108, 111, 99, 107, 32]⟩ : ByteArray).size + t1462.size) 9223372036854775807) (chk (leB (((⟨#[98, 108, 111, 99, 107, 32]⟩ : ByteArray) ++ t1462).size + (⟨#[32]⟩ : ByteArray).size) 9223372036854775807) (chk (leB ((((⟨#[98, 108, 111, 99, 107, 32]⟩ : ByteArray) ++ t1462) ++ (⟨#[32]⟩ : ByteArray)).size + a1451.size) 9223372036854775807) (some ((((⟨#[98, 108, 111, 99, 107, 32]⟩ : ByteArray) ++ t1462) ++ (⟨#[32]⟩ : ByteArray)) ++ a1451))))))))
theorem impl_blockText.calls {k : Nat} {x0 : Block} {p0_0 : Value} {w : World} (htab : TabP w) (hp0_0 : RdS kInt w p0_0 x0.fTxs) {r : ByteArray} (H : impl_blockText.f k x0 = some r) :
    Calls Tryd.prog 58 ([.agg #[(.int .i64 x0.fPrev), (.int .i64 x0.fHeight), (.int .i64 x0.fMiner), p0_0]] : List Value).toArray w (fun e w_ => ∃ v, e = .returned v ∧ v = (.string r) ∧ Mem w [] w_ []) := by
  have HM := Mem.start w
  refine calls_run (N := 23) Tryd.func58 rfl rfl rfl rfl ?_
  unfold impl_blockText.f at H
  refine run_seq ?_
  refine run_region rfl ?_
  refine ops_does rfl (guard_none rfl) rfl rfl (does_box (cs := [.int .i64 x0.fPrev, .int .i64 x0.fHeight, .int .i64 x0.fMiner, p0_0]) rfl rfl rfl HM) ?_
  rintro _ w1444 ⟨b1441, rfl, HM⟩
  refine ops_ex rfl (guard_none rfl) rfl rfl (ex_assign rfl rfl) ?_
  refine ops_nil ?_
  refine at_then ?_
  refine run_seq ?_
  refine run_region rfl ?_
  refine ops_ex rfl (guard_none rfl) rfl rfl (ex_assign rfl rfl) ?_
  refine ops_nil ?_
  refine at_then ?_
  obtain ⟨o1452, ho1453, H⟩ := bind_some H
  refine run_mid (fun ρ_ w_ => ∃ a1451 : ByteArray, a1451 = o1452 ∧ ρ_ = [(1, .pointer (some ⟨b1441, 0, none⟩)), (3, .string a1451)] ∧ Mem w [] w_ [box b1441 48 [.int .i64 x0.fPrev, .int .i64 x0.fHeight, .int .i64 x0.fMiner, p0_0]]) ?_ ?_
  · clear H
    refine run_seq ?_
    refine run_region rfl ?_
    refine ops_ex rfl (guard_none rfl) rfl rfl (ex_fieldAddr (off' := 3) rfl rfl Tryd.underlying48 rfl tsz38 rfl) ?_
    refine ops_ex rfl (guard_none rfl) rfl rfl (ex_load1 rfl rfl Tryd.underlying38 rfl ((HM.box_at 0 rfl) 3 _ rfl)) ?_
    refine ops_ex rfl (guard_none rfl) rfl rfl (ex_len (d := kInt) (xs := x0.fTxs) rfl rfl Tryd.underlying38 hp0_0) ?_
    refine ops_ex rfl (guard_none rfl) rfl rfl (ex_gtr rfl rfl rfl) ?_
    refine ops_nil ?_
    refine at_then ?_
    refine run_cond (b := (decide (0 < (x0.fTxs.length : Int)))) rfl (fun hb1454 => ?_) (fun hb1454 => ?_)
    · replace ho1453 := cond_t hb1454 ho1453
      obtain ⟨t1455, h1456, ho1453⟩ := bind_some ho1453
      refine run_region rfl ?_
      refine ops_ex rfl (guard_none rfl) rfl rfl (ex_fieldAddr (off' := 3) rfl rfl Tryd.underlying48 rfl tsz38 rfl) ?_
      refine ops_ex rfl (guard_none rfl) rfl rfl (ex_load1 rfl rfl Tryd.underlying38 rfl ((HM.box_at 0 rfl) 3 _ rfl)) ?_
      refine ops_does rfl (guard_none rfl) rfl rfl (does_callk rfl callok99 rfl (impl_joined.calls (x0 := x0.fTxs) (x1 := (⟨#[43]⟩ : ByteArray)) (HM.tabP htab) (HM.rd hp0_0) h1456)) ?_
      rintro _ w1457 ⟨rfl, hn⟩
      replace HM : Mem w [] w1457 [box b1441 48 [.int .i64 x0.fPrev, .int .i64 x0.fHeight, .int .i64 x0.fMiner, p0_0]] := HM.call hn
      refine ops_ex rfl (guard_none rfl) rfl rfl (ex_assign rfl rfl) ?_
      refine ops_nil ?_
      exact at_mid (ρ' := [(1, .pointer (some ⟨b1441, 0, none⟩)), (3, .string t1455)]) ⟨_, (Option.some.inj ho1453), rfl, HM⟩ (Sub.cons rfl (Sub.cons rfl Sub.nil))
    · replace ho1453 := cond_f hb1454 ho1453
      refine run_skip ?_
      exact at_mid (ρ' := [(1, .pointer (some ⟨b1441, 0, none⟩)), (3, .string (⟨#[45]⟩ : ByteArray))]) ⟨_, (Option.some.inj ho1453), rfl, HM⟩ (Sub.cons rfl (Sub.cons rfl Sub.nil))
  · rintro _ w1458 ⟨a1451, rfl, rfl, HM⟩
    refine run_seq ?_
    obtain ⟨t1462, h1463, H⟩ := bind_some H
    obtain ⟨e1464, H⟩ := chk_some H
    obtain ⟨e1465, H⟩ := chk_some H
    obtain ⟨e1466, H⟩ := chk_some H
    refine run_region rfl ?_
    refine ops_ex rfl (guard_none rfl) rfl rfl (ex_fieldAddr (off' := 0) rfl rfl Tryd.underlying48 rfl tsz2 rfl) ?_
    refine ops_ex rfl (guard_none rfl) rfl rfl (ex_load1 rfl rfl Tryd.underlying2 rfl ((HM.box_at 0 rfl) 0 _ rfl)) ?_
    refine ops_ex rfl (guard_none rfl) rfl rfl (ex_fieldAddr (off' := 1) rfl rfl Tryd.underlying48 rfl tsz2 rfl) ?_
    refine ops_ex rfl (guard_none rfl) rfl rfl (ex_load1 rfl rfl Tryd.underlying2 rfl ((HM.box_at 0 rfl) 1 _ rfl)) ?_
    refine ops_ex rfl (guard_none rfl) rfl rfl (ex_fieldAddr (off' := 2) rfl rfl Tryd.underlying48 rfl tsz2 rfl) ?_
    refine ops_ex rfl (guard_none rfl) rfl rfl (ex_load1 rfl rfl Tryd.underlying2 rfl ((HM.box_at 0 rfl) 2 _ rfl)) ?_
    refine ops_does rfl (guard_none rfl) rfl rfl (does_lit (e := 2) (cs := [.int .i64 x0.fPrev, .int .i64 x0.fHeight, .int .i64 x0.fMiner]) (xs := ([x0.fPrev, x0.fHeight, x0.fMiner] : List Int)) kInt rfl rfl (fun _ => by kernel_rfl) rfl rfl (fun _ _ h => by have h' : _ = [] := h; subst h'; exact (Elems.cons (d := kInt) (f := []) ⟨rfl, rfl⟩ (Elems.cons (d := kInt) (f := []) ⟨rfl, rfl⟩ (Elems.cons (d := kInt) (f := []) ⟨rfl, rfl⟩ .nil)))) HM.emp) ?_
    rintro v1459 w1467 HM
    refine ops_does rfl (guard_none rfl) rfl rfl (does_callk rfl callok99 rfl (impl_joined.calls (x0 := ([x0.fPrev, x0.fHeight, x0.fMiner] : List Int)) (x1 := (⟨#[32]⟩ : ByteArray)) (HM.tabP htab) (HM.own_rd 0 rfl) h1463)) ?_
    rintro _ w1468 ⟨rfl, hn⟩
    replace HM : Mem w [] w1468 [own kInt 2 v1459 ([x0.fPrev, x0.fHeight, x0.fMiner] : List Int), box b1441 48 [.int .i64 x0.fPrev, .int .i64 x0.fHeight, .int .i64 x0.fMiner, p0_0]] := HM.call hn
    refine ops_ex rfl (guard_none rfl) rfl rfl (ex_sadd rfl rfl rfl (leB_le e1464)) ?_
    refine ops_ex rfl (guard_none rfl) rfl rfl (ex_sadd rfl rfl rfl (leB_le e1465)) ?_
    refine ops_ex rfl (guard_none rfl) rfl rfl (ex_move rfl rfl) ?_
    refine ops_ex rfl (guard_none rfl) rfl rfl (ex_sadd rfl rfl rfl (leB_le e1466)) ?_
    refine ops_ex rfl (guard_none rfl) rfl rfl (ex_assign rfl rfl) ?_
    refine ops_nil ?_
    refine at_then ?_
    refine run_ret ?_
    replace HM := (HM.front 0 rfl rfl).drop
    replace HM := (HM.front 0 rfl rfl).drop
    have hR := Option.some.inj H
    subst hR
    exact at_ret1 rfl rfl ⟨_, rfl, rfl, HM⟩

def impl_readBlock.f (k : Nat) (x0 : ByteArray) : Option (Block × Bool) := ((strings_Split.f k x0 (⟨#[32]⟩ : ByteArray)).bind fun t1476 => (bif ((decide (300 < (x0.size : Int))) || ((t1476.length : Int) != 5)) then some ((⟨0, 0, 0, ([] : List Int)⟩ : Block), false) else (chk (idxOk (1 : Int) t1476.length) (chk (idxOk (2 : Int) t1476.length) (chk (idxOk (3 : Int) t1476.length) ((impl_number.f k (gt t1476 (1 : Int))).bind fun t1491 => ((impl_number.f k (gt t1476 (2 : Int))).bind fun t1493 => ((impl_number.f k (gt t1476 (3 : Int))).bind fun t1495 => ((chk (idxOk (4 : Int) t1476.length) (bif (!sEq (gt t1476 (4 : Int)) (⟨#[45]⟩ : ByteArray)) then (chk (idxOk (4 : Int) t1476.length) ((impl_numbers.f k (gt t1476 (4 : Int)) (⟨#[43]⟩ : ByteArray)).bind fun t1540 => some t1540)) else some ([] : List Int))).bind (fun a1533 => ((impl_BlockFault.f k (⟨t1491, t1493, t1495, a1533⟩ : Block)).bind fun t1548 => ((bif (!(t1548 != 0)) then impl_blockText.f k (⟨t1491, t1493, t1495, a1533⟩ : Block) else some default).bind fun t1550 => (bif ((t1548 != 0) || (!sEq t1550 x0)) then some ((⟨0, 0, 0, ([] : List Int)⟩ : Block), false) else some ((⟨t1491, t1493, t1495, a1533⟩ : Block), true))))))))))))))
theorem impl_readBlock.calls {k : Nat} {x0 : ByteArray}  {w : World} (htab : TabP w)  {r : Block × Bool} (H : impl_readBlock.f k x0 = some r) :
    Calls Tryd.prog 49 ([.string x0] : List Value).toArray w (fun e w_ => ∃ v, e = .returned v ∧ ∃ u0 : Value, v = (.tuple #[.agg #[.int .i64 r.1.fPrev, .int .i64 r.1.fHeight, .int .i64 r.1.fMiner, u0], .bool r.2]) ∧ Mem w [] w_ [own kInt 2 u0 r.1.fTxs]) := by
  have HM := Mem.start w
  refine calls_run (N := 50) Tryd.func49 rfl rfl rfl rfl ?_
  unfold impl_readBlock.f at H
  refine run_seq ?_
  refine run_region rfl ?_
  refine ops_does rfl (guard_none rfl) rfl rfl (does_alloc (cs := [.int .i64 0, .int .i64 0, .int .i64 0, .slice none 0 0]) rfl tz48 rfl HM) ?_
  rintro _ w1475 ⟨b1472, rfl, HM⟩
  refine ops_ex rfl (guard_none rfl) rfl rfl (ex_assign rfl rfl) ?_
  refine ops_nil ?_
  refine at_then ?_
  refine run_seq ?_
  obtain ⟨t1476, h1477, H⟩ := bind_some H
  refine run_region rfl ?_
  refine ops_ex rfl (guard_none rfl) rfl rfl (ex_move rfl rfl) ?_
  refine ops_does rfl (guard_none rfl) rfl rfl (does_callk rfl callok91 rfl (strings_Split.calls (x0 := x0) (x1 := (⟨#[32]⟩ : ByteArray)) (HM.tabP htab) h1477)) ?_
  rintro u1478 w1480 ⟨_, rfl, hn⟩
  replace HM : Mem w [] w1480 [own kStr 9 u1478 t1476, box b1472 48 [.int .i64 0, .int .i64 0, .int .i64 0, .slice none 0 0]] := HM.call hn
  refine ops_ex rfl (guard_none rfl) rfl rfl (ex_assign rfl rfl) ?_
  refine ops_nil ?_
  refine at_then ?_
  refine run_seq ?_
  refine run_seq ?_
  refine run_meet (fun ρ_ w_ => ρ_ = [(0, .string x0), (2, .pointer (some ⟨b1472, 0, none⟩)), (4, u1478), (15, .bool ((decide (300 < (x0.size : Int))) || ((t1476.length : Int) != 5)))] ∧ Mem w [] w_ [box b1472 48 [.int .i64 0, .int .i64 0, .int .i64 0, .slice none 0 0], own kStr 9 u1478 t1476]) ?_ ?_
  · skip
    refine run_region rfl ?_
    refine ops_ex rfl (guard_none rfl) rfl rfl (ex_move rfl rfl) ?_
    refine ops_ex rfl (guard_none rfl) rfl rfl (ex_strlen rfl rfl Tryd.underlying9) ?_
    refine ops_ex rfl (guard_none rfl) rfl rfl (ex_gtr rfl rfl rfl) ?_
    refine ops_ex rfl (guard_none rfl) rfl rfl (ex_move rfl rfl) ?_
    refine bool_cases (decide (300 < (x0.size : Int))) (fun hg1482 => ?_) (fun hg1482 => ?_)
    · skip
      refine ops_off rfl (guard_off rfl rfl rfl hg1482) rfl rfl ?_
      refine ops_off rfl (guard_off rfl rfl rfl hg1482) rfl rfl ?_
      refine ops_off rfl (guard_off rfl rfl rfl hg1482) rfl rfl ?_
      have hg1483 : ((decide (300 < (x0.size : Int))) || ((t1476.length : Int) != 5)) = true := by simp only [hg1482, Bool.and_true, Bool.true_and, Bool.and_false, Bool.false_and, Bool.or_true, Bool.true_or, Bool.or_false, Bool.false_or, Bool.not_true, Bool.not_false, Bool.not_not]
      refine ops_ex (v := .bool ((decide (300 < (x0.size : Int))) || ((t1476.length : Int) != 5))) rfl (guard_none rfl) rfl rfl (ex_por_t rfl rfl hg1482) ?_
      refine ops_nil ?_
      replace HM := HM.front 1 rfl rfl
      exact at_meet [(0, .string x0), (2, .pointer (some ⟨b1472, 0, none⟩)), (4, u1478), (15, .bool ((decide (300 < (x0.size : Int))) || ((t1476.length : Int) != 5)))] ⟨rfl, HM⟩ (Sub.cons rfl (Sub.cons rfl (Sub.cons rfl (Sub.cons rfl Sub.nil))))
    · skip
      refine ops_ex rfl (guard_on rfl rfl rfl hg1482) rfl rfl (ex_move rfl rfl) ?_
      refine ops_ex rfl (guard_on rfl rfl rfl hg1482) rfl rfl (ex_len (d := kStr) (xs := t1476) rfl rfl Tryd.underlying107 (HM.own_rd 0 rfl)) ?_
      refine ops_ex rfl (guard_on rfl rfl rfl hg1482) rfl rfl (ex_neq rfl rfl rfl) ?_
      refine ops_ex (v := .bool ((decide (300 < (x0.size : Int))) || ((t1476.length : Int) != 5))) rfl (guard_none rfl) rfl rfl (ex_por_f rfl rfl hg1482 rfl) ?_
      refine ops_nil ?_
      replace HM := HM.front 1 rfl rfl
      exact at_meet [(0, .string x0), (2, .pointer (some ⟨b1472, 0, none⟩)), (4, u1478), (15, .bool ((decide (300 < (x0.size : Int))) || ((t1476.length : Int) != 5)))] ⟨rfl, HM⟩ (Sub.cons rfl (Sub.cons rfl (Sub.cons rfl (Sub.cons rfl Sub.nil))))
  · rintro _ w1484 ⟨rfl, HM⟩
    refine at_then ?_
    refine run_cond (b := ((decide (300 < (x0.size : Int))) || ((t1476.length : Int) != 5))) rfl (fun hb1485 => ?_) (fun hb1485 => ?_)
    · replace H := cond_t hb1485 H
      refine run_seq ?_
      refine run_region rfl ?_
      refine ops_ex rfl (guard_none rfl) rfl rfl (ex_build (cells := #[(.int .i64 0), (.int .i64 0), (.int .i64 0), (.slice none 0 0)]) rfl rfl (by kernel_rfl)) ?_
      refine ops_doesS rfl (guard_none rfl) rfl (does_store (vs := [.int .i64 0, .int .i64 0, .int .i64 0, .slice none 0 0]) (cs' := [.int .i64 0, .int .i64 0, .int .i64 0, .slice none 0 0]) rfl rfl rfl rfl tsz48 (Ones.int (Ones.int (Ones.int (Ones.sl Ones.nil)))) rfl rfl HM) ?_
      rintro w1486 HM
      refine ops_ex rfl (guard_none rfl) rfl rfl (ex_assign rfl rfl) ?_
      refine ops_nil ?_
      refine at_then ?_
      refine run_ret ?_
      refine at_then_ret ?_
      replace HM := HM.empty kInt 2 none
      replace HM := (HM.front 2 rfl rfl).drop
      replace HM := HM.front 1 rfl rfl
      have hcb0 := HM.box_at 0 rfl
      replace HM := (HM.front 0 rfl rfl).drop
      have hR := Option.some.inj H
      subst hR
      exact at_retN1 rfl rfl rfl Tryd.underlying48 rfl tsz48 rfl hcb0 ⟨_, rfl, _, rfl, HM⟩
    · replace H := cond_f hb1485 H
      refine run_skip ?_
      refine at_then ?_
      refine run_seq ?_
      obtain ⟨e1488, H⟩ := chk_some H
      obtain ⟨e1489, H⟩ := chk_some H
      obtain ⟨e1490, H⟩ := chk_some H
      obtain ⟨t1491, h1492, H⟩ := bind_some H
      obtain ⟨t1493, h1494, H⟩ := bind_some H
      obtain ⟨t1495, h1496, H⟩ := bind_some H
      refine run_meet (fun ρ_ w_ => ∃ b1497 : Nat, ρ_ = [(0, .string x0), (2, .pointer (some ⟨b1472, 0, none⟩)), (4, u1478), (5, .pointer (some ⟨b1497, 0, none⟩))] ∧ Mem w [] w_ [box b1472 48 [.int .i64 0, .int .i64 0, .int .i64 0, .slice none 0 0], own kStr 9 u1478 t1476, box b1497 48 [.int .i64 t1491, .int .i64 t1493, .int .i64 t1495, .slice none 0 0]]) ?_ ?_
      · skip
        refine run_draw (fun w_ => Mem w [] w_ [box b1472 48 [.int .i64 0, .int .i64 0, .int .i64 0, .slice none 0 0], own kStr 9 u1478 t1476]) mixed rfl (l := #[false, false, false, false, false, false, false, false, false, false, false, false, false, false, false]) rfl ?_
        replace HM := HM.grow (fr_drew _)
        have hS := Mem.suf (M := []) HM
        refine drw_take (i := 0) (l' := #[true, false, false, false, false, false, false, false, false, false, false, false, false, false, false]) rfl (guard_none rfl) rfl rfl (by kernel_rfl) (fun w_ hS_ => (ex_move rfl rfl)) hS ?_
        refine drw_take (i := 1) (l' := #[true, true, false, false, false, false, false, false, false, false, false, false, false, false, false]) rfl (guard_none rfl) rfl rfl (by kernel_rfl) (fun w_ hS_ => (ex_indexAddr (d := kStr) rfl rfl rfl Tryd.underlying107 tsz9 (hS_.own_rd 1 rfl) (idx_lo e1488) (idx_hi e1488))) hS ?_
        refine drw_take (i := 2) (l' := #[true, true, true, false, false, false, false, false, false, false, false, false, false, false, false]) rfl (guard_none rfl) rfl rfl (by kernel_rfl) (fun w_ hS_ => (ex_load1 rfl rfl Tryd.underlying9 rfl ((rd_plain (hS_.own_rd 1 rfl) e1488) 0 _ rfl))) hS ?_
        refine drw_take (i := 4) (l' := #[true, true, true, false, true, false, false, false, false, false, false, false, false, false, false]) rfl (guard_none rfl) rfl rfl (by kernel_rfl) (fun w_ hS_ => (ex_move rfl rfl)) hS ?_
        refine drw_take (i := 5) (l' := #[true, true, true, false, true, true, false, false, false, false, false, false, false, false, false]) rfl (guard_none rfl) rfl rfl (by kernel_rfl) (fun w_ hS_ => (ex_indexAddr (d := kStr) rfl rfl rfl Tryd.underlying107 tsz9 (hS_.own_rd 1 rfl) (idx_lo e1489) (idx_hi e1489))) hS ?_
        refine drw_take (i := 6) (l' := #[true, true, true, false, true, true, true, false, false, false, false, false, false, false, false]) rfl (guard_none rfl) rfl rfl (by kernel_rfl) (fun w_ hS_ => (ex_load1 rfl rfl Tryd.underlying9 rfl ((rd_plain (hS_.own_rd 1 rfl) e1489) 0 _ rfl))) hS ?_
        refine drw_take (i := 8) (l' := #[true, true, true, false, true, true, true, false, true, false, false, false, false, false, false]) rfl (guard_none rfl) rfl rfl (by kernel_rfl) (fun w_ hS_ => (ex_move rfl rfl)) hS ?_
        refine drw_take (i := 9) (l' := #[true, true, true, false, true, true, true, false, true, true, false, false, false, false, false]) rfl (guard_none rfl) rfl rfl (by kernel_rfl) (fun w_ hS_ => (ex_indexAddr (d := kStr) rfl rfl rfl Tryd.underlying107 tsz9 (hS_.own_rd 1 rfl) (idx_lo e1490) (idx_hi e1490))) hS ?_
        refine drw_take (i := 10) (l' := #[true, true, true, false, true, true, true, false, true, true, true, false, false, false, false]) rfl (guard_none rfl) rfl rfl (by kernel_rfl) (fun w_ hS_ => (ex_load1 rfl rfl Tryd.underlying9 rfl ((rd_plain (hS_.own_rd 1 rfl) e1490) 0 _ rfl))) hS ?_
        refine drw_any [3, 13] (by kernel_rfl) rfl (.cons ?_ (.cons ?_ .nil))
        · skip
          refine br_does (l' := #[true, true, true, true, true, true, true, false, true, true, true, false, false, false, false]) rfl (guard_none rfl) rfl rfl (by kernel_rfl) (does_callk rfl callok92 rfl (impl_number.calls (x0 := (gt t1476 (1 : Int))) (HM.tabP htab) h1492)) ?_
          rintro _ w1500 ⟨rfl, hn⟩
          replace HM : Mem w [] w1500 [box b1472 48 [.int .i64 0, .int .i64 0, .int .i64 0, .slice none 0 0], own kStr 9 u1478 t1476] := HM.call hn
          refine ⟨Mem.suf (M := []) HM, ?_⟩
          have hS := Mem.suf (M := []) HM
          refine drw_any [7, 13] (by kernel_rfl) rfl (.cons ?_ (.cons ?_ .nil))
          · skip
            refine br_does (l' := #[true, true, true, true, true, true, true, true, true, true, true, false, false, false, false]) rfl (guard_none rfl) rfl rfl (by kernel_rfl) (does_callk rfl callok92 rfl (impl_number.calls (x0 := (gt t1476 (2 : Int))) (HM.tabP htab) h1494)) ?_
            rintro _ w1501 ⟨rfl, hn⟩
            replace HM : Mem w [] w1501 [box b1472 48 [.int .i64 0, .int .i64 0, .int .i64 0, .slice none 0 0], own kStr 9 u1478 t1476] := HM.call hn
            refine ⟨Mem.suf (M := []) HM, ?_⟩
            have hS := Mem.suf (M := []) HM
            refine drw_any [11, 13] (by kernel_rfl) rfl (.cons ?_ (.cons ?_ .nil))
            · skip
              refine br_does (l' := #[true, true, true, true, true, true, true, true, true, true, true, true, false, false, false]) rfl (guard_none rfl) rfl rfl (by kernel_rfl) (does_callk rfl callok92 rfl (impl_number.calls (x0 := (gt t1476 (3 : Int))) (HM.tabP htab) h1496)) ?_
              rintro _ w1502 ⟨rfl, hn⟩
              replace HM : Mem w [] w1502 [box b1472 48 [.int .i64 0, .int .i64 0, .int .i64 0, .slice none 0 0], own kStr 9 u1478 t1476] := HM.call hn
              refine ⟨Mem.suf (M := []) HM, ?_⟩
              have hS := Mem.suf (M := []) HM
              refine drw_take (i := 12) (l' := #[true, true, true, true, true, true, true, true, true, true, true, true, true, false, false]) rfl (guard_none rfl) rfl rfl (by kernel_rfl) (fun w_ hS_ => (ex_build (cells := #[(.int .i64 t1491), (.int .i64 t1493), (.int .i64 t1495), (.slice none 0 0)]) rfl rfl (by kernel_rfl))) hS ?_
              refine drw_any [13] (by kernel_rfl) rfl (.cons ?_ .nil)
              refine br_does (l' := #[true, true, true, true, true, true, true, true, true, true, true, true, true, true, false]) rfl (guard_none rfl) rfl rfl (by kernel_rfl) (does_alloc (cs := [.int .i64 0, .int .i64 0, .int .i64 0, .slice none 0 0]) rfl tz48 rfl HM) ?_
              rintro _ w1503 ⟨b1497, rfl, HM⟩
              refine ⟨Mem.suf (M := [box b1497 48 [.int .i64 0, .int .i64 0, .int .i64 0, .slice none 0 0]]) HM, ?_⟩
              have hS := Mem.suf (M := [box b1497 48 [.int .i64 0, .int .i64 0, .int .i64 0, .slice none 0 0]]) HM
              refine drw_any [14] (by kernel_rfl) rfl (.cons ?_ .nil)
              refine br_doesS (l' := #[true, true, true, true, true, true, true, true, true, true, true, true, true, true, true]) rfl (guard_none rfl) rfl (by kernel_rfl) (does_store (vs := [.int .i64 t1491, .int .i64 t1493, .int .i64 t1495, .slice none 0 0]) (cs' := [.int .i64 t1491, .int .i64 t1493, .int .i64 t1495, .slice none 0 0]) rfl rfl rfl rfl tsz48 (Ones.int (Ones.int (Ones.int (Ones.sl Ones.nil)))) rfl rfl HM) ?_
              rintro w1504 HM
              refine ⟨Mem.suf (M := [box b1497 48 [.int .i64 t1491, .int .i64 t1493, .int .i64 t1495, .slice none 0 0]]) HM, ?_⟩
              have hS := Mem.suf (M := [box b1497 48 [.int .i64 t1491, .int .i64 t1493, .int .i64 t1495, .slice none 0 0]]) HM
              refine drw_done (by kernel_rfl) ?_
              replace HM := HM.front 2 rfl rfl
              replace HM := HM.front 2 rfl rfl
              exact at_meet [(0, .string x0), (2, .pointer (some ⟨b1472, 0, none⟩)), (4, u1478), (5, .pointer (some ⟨b1497, 0, none⟩))] ⟨_, rfl, HM⟩ (Sub.cons rfl (Sub.cons rfl (Sub.cons rfl (Sub.cons rfl Sub.nil))))
            · skip
              refine br_does (l' := #[true, true, true, true, true, true, true, true, true, true, true, false, false, true, false]) rfl (guard_none rfl) rfl rfl (by kernel_rfl) (does_alloc (cs := [.int .i64 0, .int .i64 0, .int .i64 0, .slice none 0 0]) rfl tz48 rfl HM) ?_
              rintro _ w1505 ⟨b1497, rfl, HM⟩
              refine ⟨Mem.suf (M := [box b1497 48 [.int .i64 0, .int .i64 0, .int .i64 0, .slice none 0 0]]) HM, ?_⟩
              have hS := Mem.suf (M := [box b1497 48 [.int .i64 0, .int .i64 0, .int .i64 0, .slice none 0 0]]) HM
              refine drw_any [11] (by kernel_rfl) rfl (.cons ?_ .nil)
              refine br_does (l' := #[true, true, true, true, true, true, true, true, true, true, true, true, false, true, false]) rfl (guard_none rfl) rfl rfl (by kernel_rfl) (does_callk rfl callok92 rfl (impl_number.calls (x0 := (gt t1476 (3 : Int))) (HM.tabP htab) h1496)) ?_
              rintro _ w1506 ⟨rfl, hn⟩
              replace HM : Mem w [] w1506 [box b1497 48 [.int .i64 0, .int .i64 0, .int .i64 0, .slice none 0 0], box b1472 48 [.int .i64 0, .int .i64 0, .int .i64 0, .slice none 0 0], own kStr 9 u1478 t1476] := HM.call hn
              refine ⟨Mem.suf (M := [box b1497 48 [.int .i64 0, .int .i64 0, .int .i64 0, .slice none 0 0]]) HM, ?_⟩
              have hS := Mem.suf (M := [box b1497 48 [.int .i64 0, .int .i64 0, .int .i64 0, .slice none 0 0]]) HM
              refine drw_take (i := 12) (l' := #[true, true, true, true, true, true, true, true, true, true, true, true, true, true, false]) rfl (guard_none rfl) rfl rfl (by kernel_rfl) (fun w_ hS_ => (ex_build (cells := #[(.int .i64 t1491), (.int .i64 t1493), (.int .i64 t1495), (.slice none 0 0)]) rfl rfl (by kernel_rfl))) hS ?_
              refine drw_any [14] (by kernel_rfl) rfl (.cons ?_ .nil)
              refine br_doesS (l' := #[true, true, true, true, true, true, true, true, true, true, true, true, true, true, true]) rfl (guard_none rfl) rfl (by kernel_rfl) (does_store (vs := [.int .i64 t1491, .int .i64 t1493, .int .i64 t1495, .slice none 0 0]) (cs' := [.int .i64 t1491, .int .i64 t1493, .int .i64 t1495, .slice none 0 0]) rfl rfl rfl rfl tsz48 (Ones.int (Ones.int (Ones.int (Ones.sl Ones.nil)))) rfl rfl HM) ?_
              rintro w1507 HM
              refine ⟨Mem.suf (M := [box b1497 48 [.int .i64 t1491, .int .i64 t1493, .int .i64 t1495, .slice none 0 0]]) HM, ?_⟩
              have hS := Mem.suf (M := [box b1497 48 [.int .i64 t1491, .int .i64 t1493, .int .i64 t1495, .slice none 0 0]]) HM
              refine drw_done (by kernel_rfl) ?_
              replace HM := HM.front 2 rfl rfl
              replace HM := HM.front 2 rfl rfl
              exact at_meet [(0, .string x0), (2, .pointer (some ⟨b1472, 0, none⟩)), (4, u1478), (5, .pointer (some ⟨b1497, 0, none⟩))] ⟨_, rfl, HM⟩ (Sub.cons rfl (Sub.cons rfl (Sub.cons rfl (Sub.cons rfl Sub.nil))))
          · skip
            refine br_does (l' := #[true, true, true, true, true, true, true, false, true, true, true, false, false, true, false]) rfl (guard_none rfl) rfl rfl (by kernel_rfl) (does_alloc (cs := [.int .i64 0, .int .i64 0, .int .i64 0, .slice none 0 0]) rfl tz48 rfl HM) ?_
            rintro _ w1508 ⟨b1497, rfl, HM⟩
            refine ⟨Mem.suf (M := [box b1497 48 [.int .i64 0, .int .i64 0, .int .i64 0, .slice none 0 0]]) HM, ?_⟩
            have hS := Mem.suf (M := [box b1497 48 [.int .i64 0, .int .i64 0, .int .i64 0, .slice none 0 0]]) HM
            refine drw_any [7] (by kernel_rfl) rfl (.cons ?_ .nil)
            refine br_does (l' := #[true, true, true, true, true, true, true, true, true, true, true, false, false, true, false]) rfl (guard_none rfl) rfl rfl (by kernel_rfl) (does_callk rfl callok92 rfl (impl_number.calls (x0 := (gt t1476 (2 : Int))) (HM.tabP htab) h1494)) ?_
            rintro _ w1509 ⟨rfl, hn⟩
            replace HM : Mem w [] w1509 [box b1497 48 [.int .i64 0, .int .i64 0, .int .i64 0, .slice none 0 0], box b1472 48 [.int .i64 0, .int .i64 0, .int .i64 0, .slice none 0 0], own kStr 9 u1478 t1476] := HM.call hn
            refine ⟨Mem.suf (M := [box b1497 48 [.int .i64 0, .int .i64 0, .int .i64 0, .slice none 0 0]]) HM, ?_⟩
            have hS := Mem.suf (M := [box b1497 48 [.int .i64 0, .int .i64 0, .int .i64 0, .slice none 0 0]]) HM
            refine drw_any [11] (by kernel_rfl) rfl (.cons ?_ .nil)
            refine br_does (l' := #[true, true, true, true, true, true, true, true, true, true, true, true, false, true, false]) rfl (guard_none rfl) rfl rfl (by kernel_rfl) (does_callk rfl callok92 rfl (impl_number.calls (x0 := (gt t1476 (3 : Int))) (HM.tabP htab) h1496)) ?_
            rintro _ w1510 ⟨rfl, hn⟩
            replace HM : Mem w [] w1510 [box b1497 48 [.int .i64 0, .int .i64 0, .int .i64 0, .slice none 0 0], box b1472 48 [.int .i64 0, .int .i64 0, .int .i64 0, .slice none 0 0], own kStr 9 u1478 t1476] := HM.call hn
            refine ⟨Mem.suf (M := [box b1497 48 [.int .i64 0, .int .i64 0, .int .i64 0, .slice none 0 0]]) HM, ?_⟩
            have hS := Mem.suf (M := [box b1497 48 [.int .i64 0, .int .i64 0, .int .i64 0, .slice none 0 0]]) HM
            refine drw_take (i := 12) (l' := #[true, true, true, true, true, true, true, true, true, true, true, true, true, true, false]) rfl (guard_none rfl) rfl rfl (by kernel_rfl) (fun w_ hS_ => (ex_build (cells := #[(.int .i64 t1491), (.int .i64 t1493), (.int .i64 t1495), (.slice none 0 0)]) rfl rfl (by kernel_rfl))) hS ?_
            refine drw_any [14] (by kernel_rfl) rfl (.cons ?_ .nil)
            refine br_doesS (l' := #[true, true, true, true, true, true, true, true, true, true, true, true, true, true, true]) rfl (guard_none rfl) rfl (by kernel_rfl) (does_store (vs := [.int .i64 t1491, .int .i64 t1493, .int .i64 t1495, .slice none 0 0]) (cs' := [.int .i64 t1491, .int .i64 t1493, .int .i64 t1495, .slice none 0 0]) rfl rfl rfl rfl tsz48 (Ones.int (Ones.int (Ones.int (Ones.sl Ones.nil)))) rfl rfl HM) ?_
            rintro w1511 HM
            refine ⟨Mem.suf (M := [box b1497 48 [.int .i64 t1491, .int .i64 t1493, .int .i64 t1495, .slice none 0 0]]) HM, ?_⟩
            have hS := Mem.suf (M := [box b1497 48 [.int .i64 t1491, .int .i64 t1493, .int .i64 t1495, .slice none 0 0]]) HM
            refine drw_done (by kernel_rfl) ?_
            replace HM := HM.front 2 rfl rfl
            replace HM := HM.front 2 rfl rfl
            exact at_meet [(0, .string x0), (2, .pointer (some ⟨b1472, 0, none⟩)), (4, u1478), (5, .pointer (some ⟨b1497, 0, none⟩))] ⟨_, rfl, HM⟩ (Sub.cons rfl (Sub.cons rfl (Sub.cons rfl (Sub.cons rfl Sub.nil))))
        · skip
          refine br_does (l' := #[true, true, true, false, true, true, true, false, true, true, true, false, false, true, false]) rfl (guard_none rfl) rfl rfl (by kernel_rfl) (does_alloc (cs := [.int .i64 0, .int .i64 0, .int .i64 0, .slice none 0 0]) rfl tz48 rfl HM) ?_
          rintro _ w1512 ⟨b1497, rfl, HM⟩
          refine ⟨Mem.suf (M := [box b1497 48 [.int .i64 0, .int .i64 0, .int .i64 0, .slice none 0 0]]) HM, ?_⟩
          have hS := Mem.suf (M := [box b1497 48 [.int .i64 0, .int .i64 0, .int .i64 0, .slice none 0 0]]) HM
          refine drw_any [3] (by kernel_rfl) rfl (.cons ?_ .nil)
          refine br_does (l' := #[true, true, true, true, true, true, true, false, true, true, true, false, false, true, false]) rfl (guard_none rfl) rfl rfl (by kernel_rfl) (does_callk rfl callok92 rfl (impl_number.calls (x0 := (gt t1476 (1 : Int))) (HM.tabP htab) h1492)) ?_
          rintro _ w1513 ⟨rfl, hn⟩
          replace HM : Mem w [] w1513 [box b1497 48 [.int .i64 0, .int .i64 0, .int .i64 0, .slice none 0 0], box b1472 48 [.int .i64 0, .int .i64 0, .int .i64 0, .slice none 0 0], own kStr 9 u1478 t1476] := HM.call hn
          refine ⟨Mem.suf (M := [box b1497 48 [.int .i64 0, .int .i64 0, .int .i64 0, .slice none 0 0]]) HM, ?_⟩
          have hS := Mem.suf (M := [box b1497 48 [.int .i64 0, .int .i64 0, .int .i64 0, .slice none 0 0]]) HM
          refine drw_any [7] (by kernel_rfl) rfl (.cons ?_ .nil)
          refine br_does (l' := #[true, true, true, true, true, true, true, true, true, true, true, false, false, true, false]) rfl (guard_none rfl) rfl rfl (by kernel_rfl) (does_callk rfl callok92 rfl (impl_number.calls (x0 := (gt t1476 (2 : Int))) (HM.tabP htab) h1494)) ?_
          rintro _ w1514 ⟨rfl, hn⟩
          replace HM : Mem w [] w1514 [box b1497 48 [.int .i64 0, .int .i64 0, .int .i64 0, .slice none 0 0], box b1472 48 [.int .i64 0, .int .i64 0, .int .i64 0, .slice none 0 0], own kStr 9 u1478 t1476] := HM.call hn
          refine ⟨Mem.suf (M := [box b1497 48 [.int .i64 0, .int .i64 0, .int .i64 0, .slice none 0 0]]) HM, ?_⟩
          have hS := Mem.suf (M := [box b1497 48 [.int .i64 0, .int .i64 0, .int .i64 0, .slice none 0 0]]) HM
          refine drw_any [11] (by kernel_rfl) rfl (.cons ?_ .nil)
          refine br_does (l' := #[true, true, true, true, true, true, true, true, true, true, true, true, false, true, false]) rfl (guard_none rfl) rfl rfl (by kernel_rfl) (does_callk rfl callok92 rfl (impl_number.calls (x0 := (gt t1476 (3 : Int))) (HM.tabP htab) h1496)) ?_
          rintro _ w1515 ⟨rfl, hn⟩
          replace HM : Mem w [] w1515 [box b1497 48 [.int .i64 0, .int .i64 0, .int .i64 0, .slice none 0 0], box b1472 48 [.int .i64 0, .int .i64 0, .int .i64 0, .slice none 0 0], own kStr 9 u1478 t1476] := HM.call hn
          refine ⟨Mem.suf (M := [box b1497 48 [.int .i64 0, .int .i64 0, .int .i64 0, .slice none 0 0]]) HM, ?_⟩
          have hS := Mem.suf (M := [box b1497 48 [.int .i64 0, .int .i64 0, .int .i64 0, .slice none 0 0]]) HM
          refine drw_take (i := 12) (l' := #[true, true, true, true, true, true, true, true, true, true, true, true, true, true, false]) rfl (guard_none rfl) rfl rfl (by kernel_rfl) (fun w_ hS_ => (ex_build (cells := #[(.int .i64 t1491), (.int .i64 t1493), (.int .i64 t1495), (.slice none 0 0)]) rfl rfl (by kernel_rfl))) hS ?_
          refine drw_any [14] (by kernel_rfl) rfl (.cons ?_ .nil)
          refine br_doesS (l' := #[true, true, true, true, true, true, true, true, true, true, true, true, true, true, true]) rfl (guard_none rfl) rfl (by kernel_rfl) (does_store (vs := [.int .i64 t1491, .int .i64 t1493, .int .i64 t1495, .slice none 0 0]) (cs' := [.int .i64 t1491, .int .i64 t1493, .int .i64 t1495, .slice none 0 0]) rfl rfl rfl rfl tsz48 (Ones.int (Ones.int (Ones.int (Ones.sl Ones.nil)))) rfl rfl HM) ?_
          rintro w1516 HM
          refine ⟨Mem.suf (M := [box b1497 48 [.int .i64 t1491, .int .i64 t1493, .int .i64 t1495, .slice none 0 0]]) HM, ?_⟩
          have hS := Mem.suf (M := [box b1497 48 [.int .i64 t1491, .int .i64 t1493, .int .i64 t1495, .slice none 0 0]]) HM
          refine drw_done (by kernel_rfl) ?_
          replace HM := HM.front 2 rfl rfl
          replace HM := HM.front 2 rfl rfl
          exact at_meet [(0, .string x0), (2, .pointer (some ⟨b1472, 0, none⟩)), (4, u1478), (5, .pointer (some ⟨b1497, 0, none⟩))] ⟨_, rfl, HM⟩ (Sub.cons rfl (Sub.cons rfl (Sub.cons rfl (Sub.cons rfl Sub.nil))))
      · rintro _ w1517 ⟨b1497, rfl, HM⟩
        refine at_then ?_
        obtain ⟨o1535, ho1536, H⟩ := bind_some H
        refine run_mid (fun ρ_ w_ => ∃ v1532 : Value, ∃ a1533 : List Int, a1533 = o1535 ∧ ρ_ = [(0, .string x0), (2, .pointer (some ⟨b1472, 0, none⟩)), (5, .pointer (some ⟨b1497, 0, none⟩))] ∧ Mem w [] w_ [box b1472 48 [.int .i64 0, .int .i64 0, .int .i64 0, .slice none 0 0], box b1497 48 [.int .i64 t1491, .int .i64 t1493, .int .i64 t1495, v1532], own kInt 2 v1532 a1533]) ?_ ?_
        · clear H
          refine run_seq ?_
          obtain ⟨e1537, ho1536⟩ := chk_some ho1536
          refine run_region rfl ?_
          refine ops_ex rfl (guard_none rfl) rfl rfl (ex_move rfl rfl) ?_
          refine ops_ex rfl (guard_none rfl) rfl rfl (ex_indexAddr (d := kStr) rfl rfl rfl Tryd.underlying107 tsz9 (HM.own_rd 1 rfl) (idx_lo e1537) (idx_hi e1537)) ?_
          refine ops_ex rfl (guard_none rfl) rfl rfl (ex_load1 rfl rfl Tryd.underlying9 rfl ((rd_plain (HM.own_rd 1 rfl) e1537) 0 _ rfl)) ?_
          refine ops_ex rfl (guard_none rfl) rfl rfl (ex_sneq rfl rfl rfl) ?_
          refine ops_nil ?_
          refine at_then ?_
          refine run_cond (b := (!sEq (gt t1476 (4 : Int)) (⟨#[45]⟩ : ByteArray))) rfl (fun hb1538 => ?_) (fun hb1538 => ?_)
          · replace ho1536 := cond_t hb1538 ho1536
            obtain ⟨e1539, ho1536⟩ := chk_some ho1536
            obtain ⟨t1540, h1541, ho1536⟩ := bind_some ho1536
            refine run_region rfl ?_
            refine ops_ex rfl (guard_none rfl) rfl rfl (ex_move rfl rfl) ?_
            refine ops_ex rfl (guard_none rfl) rfl rfl (ex_indexAddr (d := kStr) rfl rfl rfl Tryd.underlying107 tsz9 (HM.own_rd 1 rfl) (idx_lo e1539) (idx_hi e1539)) ?_
            refine ops_ex rfl (guard_none rfl) rfl rfl (ex_load1 rfl rfl Tryd.underlying9 rfl ((rd_plain (HM.own_rd 1 rfl) e1539) 0 _ rfl)) ?_
            refine ops_does rfl (guard_none rfl) rfl rfl (does_callk rfl callok93 rfl (impl_numbers.calls (x0 := (gt t1476 (4 : Int))) (x1 := (⟨#[43]⟩ : ByteArray)) (HM.tabP htab) h1541)) ?_
            rintro u1542 w1544 ⟨_, rfl, hn⟩
            replace HM : Mem w [] w1544 [own kInt 2 u1542 t1540, box b1472 48 [.int .i64 0, .int .i64 0, .int .i64 0, .slice none 0 0], own kStr 9 u1478 t1476, box b1497 48 [.int .i64 t1491, .int .i64 t1493, .int .i64 t1495, .slice none 0 0]] := HM.call hn
            refine ops_ex rfl (guard_none rfl) rfl rfl (ex_fieldAddr (off' := 3) rfl rfl Tryd.underlying48 rfl tsz38 rfl) ?_
            replace HM := HM.front 3 rfl rfl
            refine ops_doesS rfl (guard_none rfl) rfl (does_store (vs := [u1542]) (cs' := [.int .i64 t1491, .int .i64 t1493, .int .i64 t1495, u1542]) rfl rfl rfl (rd_cells (HM.own_rd 1 rfl)) tsz38 (Ones.rd (HM.own_rd 1 rfl) Ones.nil) rfl rfl HM) ?_
            rintro w1545 HM
            refine ops_nil ?_
            replace HM := (HM.front 3 rfl rfl).drop
            replace HM := HM.front 1 rfl rfl
            replace HM := HM.front 1 rfl rfl
            replace HM := HM.front 2 rfl rfl
            exact at_mid (ρ' := [(0, .string x0), (2, .pointer (some ⟨b1472, 0, none⟩)), (5, .pointer (some ⟨b1497, 0, none⟩))]) ⟨_, _, (Option.some.inj ho1536), rfl, HM⟩ (Sub.cons rfl (Sub.cons rfl (Sub.cons rfl Sub.nil)))
          · replace ho1536 := cond_f hb1538 ho1536
            refine run_skip ?_
            replace HM := HM.empty kInt 2 none
            replace HM := (HM.front 2 rfl rfl).drop
            replace HM := HM.front 2 rfl rfl
            replace HM := HM.front 2 rfl rfl
            exact at_mid (ρ' := [(0, .string x0), (2, .pointer (some ⟨b1472, 0, none⟩)), (5, .pointer (some ⟨b1497, 0, none⟩))]) ⟨_, _, (Option.some.inj ho1536), rfl, HM⟩ (Sub.cons rfl (Sub.cons rfl (Sub.cons rfl Sub.nil)))
        · rintro _ w1547 ⟨v1532, a1533, rfl, rfl, HM⟩
          refine run_seq ?_
          refine run_seq ?_
          obtain ⟨t1548, h1549, H⟩ := bind_some H
          obtain ⟨t1550, h1551, H⟩ := bind_some H
          refine run_meet (fun ρ_ w_ => ρ_ = [(2, .pointer (some ⟨b1472, 0, none⟩)), (5, .pointer (some ⟨b1497, 0, none⟩)), (47, .bool ((t1548 != 0) || (!sEq t1550 x0)))] ∧ Mem w [] w_ [box b1472 48 [.int .i64 0, .int .i64 0, .int .i64 0, .slice none 0 0], box b1497 48 [.int .i64 t1491, .int .i64 t1493, .int .i64 t1495, v1532], own kInt 2 v1532 a1533]) ?_ ?_
          · skip
            refine run_region rfl ?_
            refine ops_ex rfl (guard_none rfl) rfl rfl (ex_loadN (cs := [(.int .i64 t1491), (.int .i64 t1493), (.int .i64 t1495), v1532]) rfl rfl Tryd.underlying48 rfl tsz48 rfl ((HM.box_at 1 rfl).sub 0 4 rfl)) ?_
            refine ops_does rfl (guard_none rfl) rfl rfl (does_callk rfl callok28 rfl (impl_BlockFault.calls (x0 := (⟨t1491, t1493, t1495, a1533⟩ : Block)) (HM.own_rd 2 rfl) h1549)) ?_
            rintro _ w1552 ⟨rfl, hn⟩
            replace HM : Mem w [] w1552 [box b1472 48 [.int .i64 0, .int .i64 0, .int .i64 0, .slice none 0 0], box b1497 48 [.int .i64 t1491, .int .i64 t1493, .int .i64 t1495, v1532], own kInt 2 v1532 a1533] := HM.call hn
            refine ops_ex rfl (guard_none rfl) rfl rfl (ex_neq rfl rfl rfl) ?_
            refine ops_ex rfl (guard_none rfl) rfl rfl (ex_move rfl rfl) ?_
            refine bool_cases (t1548 != 0) (fun hg1553 => ?_) (fun hg1553 => ?_)
            · skip
              refine ops_off rfl (guard_off rfl rfl rfl hg1553) rfl rfl ?_
              refine ops_off rfl (guard_off rfl rfl rfl hg1553) rfl rfl ?_
              refine ops_off rfl (guard_off rfl rfl rfl hg1553) rfl rfl ?_
              refine ops_off rfl (guard_off rfl rfl rfl hg1553) rfl rfl ?_
              have hg1554 : ((t1548 != 0) || (!sEq t1550 x0)) = true := by simp only [hg1553, Bool.and_true, Bool.true_and, Bool.and_false, Bool.false_and, Bool.or_true, Bool.true_or, Bool.or_false, Bool.false_or, Bool.not_true, Bool.not_false, Bool.not_not]
              refine ops_ex (v := .bool ((t1548 != 0) || (!sEq t1550 x0))) rfl (guard_none rfl) rfl rfl (ex_por_t rfl rfl hg1553) ?_
              refine ops_nil ?_
              exact at_meet [(2, .pointer (some ⟨b1472, 0, none⟩)), (5, .pointer (some ⟨b1497, 0, none⟩)), (47, .bool ((t1548 != 0) || (!sEq t1550 x0)))] ⟨rfl, HM⟩ (Sub.cons rfl (Sub.cons rfl (Sub.cons rfl Sub.nil)))
            · skip
              refine ops_ex rfl (guard_on rfl rfl rfl hg1553) rfl rfl (ex_loadN (cs := [(.int .i64 t1491), (.int .i64 t1493), (.int .i64 t1495), v1532]) rfl rfl Tryd.underlying48 rfl tsz48 rfl ((HM.box_at 1 rfl).sub 0 4 rfl)) ?_
              refine ops_does rfl (guard_on rfl rfl rfl hg1553) rfl rfl (does_callk rfl callok58 rfl (impl_blockText.calls (x0 := (⟨t1491, t1493, t1495, a1533⟩ : Block)) (HM.tabP htab) (HM.own_rd 2 rfl) (cond_t (not_mk hg1553) h1551))) ?_
              rintro _ w1555 ⟨rfl, hn⟩
              replace HM : Mem w [] w1555 [box b1472 48 [.int .i64 0, .int .i64 0, .int .i64 0, .slice none 0 0], box b1497 48 [.int .i64 t1491, .int .i64 t1493, .int .i64 t1495, v1532], own kInt 2 v1532 a1533] := HM.call hn
              refine ops_ex rfl (guard_on rfl rfl rfl hg1553) rfl rfl (ex_move rfl rfl) ?_
              refine ops_ex rfl (guard_on rfl rfl rfl hg1553) rfl rfl (ex_sneq rfl rfl rfl) ?_
              refine ops_ex (v := .bool ((t1548 != 0) || (!sEq t1550 x0))) rfl (guard_none rfl) rfl rfl (ex_por_f rfl rfl hg1553 rfl) ?_
              refine ops_nil ?_
              exact at_meet [(2, .pointer (some ⟨b1472, 0, none⟩)), (5, .pointer (some ⟨b1497, 0, none⟩)), (47, .bool ((t1548 != 0) || (!sEq t1550 x0)))] ⟨rfl, HM⟩ (Sub.cons rfl (Sub.cons rfl (Sub.cons rfl Sub.nil)))
          · rintro _ w1556 ⟨rfl, HM⟩
            refine at_then ?_
            refine run_cond (b := ((t1548 != 0) || (!sEq t1550 x0))) rfl (fun hb1557 => ?_) (fun hb1557 => ?_)
            · replace H := cond_t hb1557 H
              refine run_seq ?_
              refine run_region rfl ?_
              refine ops_ex rfl (guard_none rfl) rfl rfl (ex_build (cells := #[(.int .i64 0), (.int .i64 0), (.int .i64 0), (.slice none 0 0)]) rfl rfl (by kernel_rfl)) ?_
              refine ops_doesS rfl (guard_none rfl) rfl (does_store (vs := [.int .i64 0, .int .i64 0, .int .i64 0, .slice none 0 0]) (cs' := [.int .i64 0, .int .i64 0, .int .i64 0, .slice none 0 0]) rfl rfl rfl rfl tsz48 (Ones.int (Ones.int (Ones.int (Ones.sl Ones.nil)))) rfl rfl HM) ?_
              rintro w1558 HM
              refine ops_ex rfl (guard_none rfl) rfl rfl (ex_assign rfl rfl) ?_
              refine ops_nil ?_
              refine at_then ?_
              refine run_ret ?_
              refine at_then_ret ?_
              replace HM := HM.empty kInt 2 none
              replace HM := (HM.front 2 rfl rfl).drop
              replace HM := (HM.front 2 rfl rfl).drop
              replace HM := HM.front 1 rfl rfl
              have hcb0 := HM.box_at 0 rfl
              replace HM := (HM.front 0 rfl rfl).drop
              have hR := Option.some.inj H
              subst hR
              exact at_retN1 rfl rfl rfl Tryd.underlying48 rfl tsz48 rfl hcb0 ⟨_, rfl, _, rfl, HM⟩
            · replace H := cond_f hb1557 H
              refine run_skip ?_
              refine at_then ?_
              refine run_seq ?_
              refine run_region rfl ?_
              refine ops_ex rfl (guard_none rfl) rfl rfl (ex_loadN (cs := [(.int .i64 t1491), (.int .i64 t1493), (.int .i64 t1495), v1532]) rfl rfl Tryd.underlying48 rfl tsz48 rfl ((HM.box_at 1 rfl).sub 0 4 rfl)) ?_
              refine ops_doesS rfl (guard_none rfl) rfl (does_store (vs := [.int .i64 t1491, .int .i64 t1493, .int .i64 t1495, v1532]) (cs' := [.int .i64 t1491, .int .i64 t1493, .int .i64 t1495, v1532]) rfl rfl rfl rfl tsz48 (Ones.int (Ones.int (Ones.int (Ones.rd (HM.own_rd 2 rfl) Ones.nil)))) rfl rfl HM) ?_
              rintro w1560 HM
              refine ops_ex rfl (guard_none rfl) rfl rfl (ex_assign rfl rfl) ?_
              refine ops_nil ?_
              refine at_then ?_
              refine run_ret ?_
              replace HM := (HM.front 1 rfl rfl).drop
              have hcb0 := HM.box_at 0 rfl
              replace HM := (HM.front 0 rfl rfl).drop
              have hR := Option.some.inj H
              subst hR
              exact at_retN1 rfl rfl rfl Tryd.underlying48 rfl tsz48 rfl hcb0 ⟨_, rfl, _, rfl, HM⟩
end Go.Proofs.YtiiimifniobfhaaDoor.Zk
