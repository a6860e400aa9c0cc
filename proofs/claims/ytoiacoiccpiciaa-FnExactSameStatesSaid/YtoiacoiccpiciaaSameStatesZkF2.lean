/- What functions of the program compute, each as a plain function, and that they do. Conditions: as each theorem states them. -/
import Derived.Test.YtoiacoiccpiciaaSameStatesZkF1
namespace Go.Proofs.Ytoiacoiccpiciaa.Zk
open Go Go.RowKit Go.IntWalk Go.Proofs
set_option linter.unusedVariables false
set_option linter.unusedSimpArgs false
set_option maxRecDepth 100000
set_option maxHeartbeats 4000000
def spec_l6Same.l0 (x0 : List Member) (x1 : List Member) : Nat → Int → Option (Bool ⊕ Unit)
  | 0, _ => none
  | k + 1, a1250 => (bif (decide (a1250 < (x0.length : Int))) then (chk (idxOk a1250 x0.length) (chk (idxOk a1250 x1.length) (bif (!((((gt x0 a1250).fKey) == ((gt x1 a1250).fKey)) && ((((gt x0 a1250).fRef.fTx) == ((gt x1 a1250).fRef.fTx)) && (((gt x0 a1250).fRef.fAt) == ((gt x1 a1250).fRef.fAt))))) then some (.inl false) else spec_l6Same.l0 x0 x1 k (wrap64 (a1250 + 1))))) else some (.inr ()))
theorem spec_l6Same.l0_z (x0 : List Member) (x1 : List Member) (a1250 : Int) : spec_l6Same.l0 x0 x1 0 a1250 = none := rfl
theorem spec_l6Same.l0_s (x0 : List Member) (x1 : List Member) (k : Nat) (a1250 : Int) : spec_l6Same.l0 x0 x1 (k + 1) a1250 = (bif (decide (a1250 < (x0.length : Int))) then (chk (idxOk a1250 x0.length) (chk (idxOk a1250 x1.length) (bif (!((((gt x0 a1250).fKey) == ((gt x1 a1250).fKey)) && ((((gt x0 a1250).fRef.fTx) == ((gt x1 a1250).fRef.fTx)) && (((gt x0 a1250).fRef.fAt) == ((gt x1 a1250).fRef.fAt))))) then some (.inl false) else spec_l6Same.l0 x0 x1 k (wrap64 (a1250 + 1))))) else some (.inr ())) := rfl
def spec_l6Same.f (k : Nat) (x0 : List Member) (x1 : List Member) : Option Bool := (bif ((x0.length : Int) != (x1.length : Int)) then some false else ((spec_l6Same.l0 x0 x1 k 0).bind fun o1242 => thn o1242 (fun r => some r) (fun _ => some true)))
theorem spec_l6Same.calls {k : Nat} {x0 : List Member} {x1 : List Member} {p0 : Value} {p1 : Value} {w : World} (hp0 : RdS kMember w p0 x0) (hp1 : RdS kMember w p1 x1) {r : Bool} (H : spec_l6Same.f k x0 x1 = some r) :
    Calls Try.prog 141 ([p0, p1] : List Value).toArray w (fun e w_ => ∃ v, e = .returned v ∧ v = (.bool r) ∧ Mem w [] w_ []) := by
  have HM := Mem.start w
  refine calls_run (N := 26) Try.func141 rfl rfl rfl rfl ?_
  unfold spec_l6Same.f at H
  refine run_seq ?_
  refine run_region rfl ?_
  refine ops_ex rfl (guard_none rfl) rfl rfl (ex_assign rfl rfl) ?_
  refine ops_nil ?_
  refine at_then ?_
  refine run_seq ?_
  refine run_seq ?_
  refine run_region rfl ?_
  refine ops_ex rfl (guard_none rfl) rfl rfl (ex_move rfl rfl) ?_
  refine ops_ex rfl (guard_none rfl) rfl rfl (ex_len (d := kMember) (xs := x0) rfl rfl Try.underlying49 hp0) ?_
  refine ops_ex rfl (guard_none rfl) rfl rfl (ex_move rfl rfl) ?_
  refine ops_ex rfl (guard_none rfl) rfl rfl (ex_len (d := kMember) (xs := x1) rfl rfl Try.underlying49 hp1) ?_
  refine ops_ex rfl (guard_none rfl) rfl rfl (ex_neq rfl rfl rfl) ?_
  refine ops_nil ?_
  refine at_then ?_
  refine run_cond (b := ((x0.length : Int) != (x1.length : Int))) rfl (fun hb1222 => ?_) (fun hb1222 => ?_)
  · replace H := cond_t hb1222 H
    refine run_seq ?_
    refine run_region rfl ?_
    refine ops_ex rfl (guard_none rfl) rfl rfl (ex_assign rfl rfl) ?_
    refine ops_nil ?_
    refine at_then ?_
    refine run_ret ?_
    refine at_then_ret ?_
    have hR := Option.some.inj H
    subst hR
    exact at_ret1 rfl rfl ⟨_, rfl, rfl, HM⟩
  · replace H := cond_f hb1222 H
    refine run_skip ?_
    refine at_then ?_
    obtain ⟨o1242, ho1243, H⟩ := bind_some H
    refine run_mid (fun ρ_ w_ => Sum.inr () = o1242 ∧ ρ_ = [] ∧ Mem w [] w_ []) ?_ ?_
    · skip
      refine run_seq ?_
      refine run_region rfl ?_
      refine ops_ex rfl (guard_none rfl) rfl rfl (ex_assign rfl rfl) ?_
      refine ops_nil ?_
      refine at_then ?_
      refine run_block ?_
      refine run_loop (fun k_ ρ_ w_ => ∃ a1250 : Int, spec_l6Same.l0 x0 x1 k_ a1250 = some o1242 ∧ ρ_ = [(0, p0), (1, p1), (5, .int .i64 a1250)] ∧ Mem w [] w_ []) k (ρ1 := [(0, p0), (1, p1), (5, .int .i64 0)]) ⟨_, ho1243, rfl, HM⟩ (Sub.cons rfl (Sub.cons rfl (Sub.cons rfl Sub.nil))) ?_
      clear HM ho1243
      rintro k1257 _ w1258 ⟨a1250, ho1243, rfl, HM⟩
      obtain _ | k1257 := k1257
      · exact nomatch ((spec_l6Same.l0_z x0 x1 a1250).symm.trans ho1243)
      replace ho1243 := (spec_l6Same.l0_s x0 x1 k1257 a1250).symm.trans ho1243
      refine run_seq ?_
      refine run_seq ?_
      refine run_region rfl ?_
      refine ops_ex rfl (guard_none rfl) rfl rfl (ex_move rfl rfl) ?_
      refine ops_ex rfl (guard_none rfl) rfl rfl (ex_move rfl rfl) ?_
      refine ops_ex rfl (guard_none rfl) rfl rfl (ex_len (d := kMember) (xs := x0) rfl rfl Try.underlying49 hp0) ?_
      refine ops_ex rfl (guard_none rfl) rfl rfl (ex_lss rfl rfl rfl) ?_
      refine ops_nil ?_
      refine at_then ?_
      refine run_cond (b := (decide (a1250 < (x0.length : Int)))) rfl (fun hb1259 => ?_) (fun hb1259 => ?_)
      · replace ho1243 := cond_t hb1259 ho1243
        refine run_skip ?_
        refine at_then ?_
        refine run_seq ?_
        refine run_block ?_
        refine run_seq ?_
        obtain ⟨e1260, ho1243⟩ := chk_some ho1243
        obtain ⟨e1262, ho1243⟩ := chk_some ho1243
        refine run_drawf (fun w_ => Mem w [] w_ []) [(0, true), (1, true), (2, true), (3, true), (4, true), (5, true), (6, true), (7, true), (8, true)] mixed rfl rfl (by kernel_rfl) ?_
        replace HM := HM.grow (fr_drew _)
        have hS := Mem.suf (M := []) HM
        refine drwp_take rfl (guard_none rfl) rfl rfl (fun w_ hS_ => (ex_move rfl rfl)) hS ?_
        refine drwp_take rfl (guard_none rfl) rfl rfl (fun w_ hS_ => (ex_move rfl rfl)) hS ?_
        have hc1261 : CellsAt _ (sb p0) (so p0 + (a1250).toNat * 3) [(.int .i64 ((gt x0 a1250).fKey)), (.int .i64 ((gt x0 a1250).fRef.fTx)), (.int .i64 ((gt x0 a1250).fRef.fAt))] := rd_plain hp0 e1260
        refine drwp_take rfl (guard_none rfl) rfl rfl (fun w_ hS_ => (ex_indexAddr (d := kMember) rfl rfl rfl Try.underlying49 tsz144 hp0 (idx_lo e1260) (idx_hi e1260))) hS ?_
        refine drwp_take rfl (guard_none rfl) rfl rfl (fun w_ hS_ => (ex_loadN (cs := [(.int .i64 ((gt x0 a1250).fKey)), (.int .i64 ((gt x0 a1250).fRef.fTx)), (.int .i64 ((gt x0 a1250).fRef.fAt))]) rfl rfl Try.underlying144 rfl tsz144 rfl ((hS_.at_ hc1261).sub 0 3 rfl))) hS ?_
        refine drwp_take rfl (guard_none rfl) rfl rfl (fun w_ hS_ => (ex_move rfl rfl)) hS ?_
        refine drwp_take rfl (guard_none rfl) rfl rfl (fun w_ hS_ => (ex_move rfl rfl)) hS ?_
        have hc1263 : CellsAt _ (sb p1) (so p1 + (a1250).toNat * 3) [(.int .i64 ((gt x1 a1250).fKey)), (.int .i64 ((gt x1 a1250).fRef.fTx)), (.int .i64 ((gt x1 a1250).fRef.fAt))] := rd_plain hp1 e1262
        refine drwp_take rfl (guard_none rfl) rfl rfl (fun w_ hS_ => (ex_indexAddr (d := kMember) rfl rfl rfl Try.underlying49 tsz144 hp1 (idx_lo e1262) (idx_hi e1262))) hS ?_
        refine drwp_take rfl (guard_none rfl) rfl rfl (fun w_ hS_ => (ex_loadN (cs := [(.int .i64 ((gt x1 a1250).fKey)), (.int .i64 ((gt x1 a1250).fRef.fTx)), (.int .i64 ((gt x1 a1250).fRef.fAt))]) rfl rfl Try.underlying144 rfl tsz144 rfl ((hS_.at_ hc1263).sub 0 3 rfl))) hS ?_
        refine drwp_take rfl (guard_none rfl) rfl rfl (fun w_ hS_ => (ex_aneq rfl rfl rfl (by kernel_rfl) (eqs144 _ _ _ _ _ _ _))) hS ?_
        refine drwp_done ?_
        refine at_then ?_
        refine run_cond (b := (!((((gt x0 a1250).fKey) == ((gt x1 a1250).fKey)) && ((((gt x0 a1250).fRef.fTx) == ((gt x1 a1250).fRef.fTx)) && (((gt x0 a1250).fRef.fAt) == ((gt x1 a1250).fRef.fAt)))))) rfl (fun hb1264 => ?_) (fun hb1264 => ?_)
        · replace ho1243 := cond_t hb1264 ho1243
          refine run_seq ?_
          refine run_region rfl ?_
          refine ops_ex rfl (guard_none rfl) rfl rfl (ex_assign rfl rfl) ?_
          refine ops_nil ?_
          refine at_then ?_
          refine run_ret ?_
          refine at_block_ret ?_
          refine at_then_ret ?_
          refine at_then_ret ?_
          refine at_block_ret ?_
          refine at_then_ret ?_
          have hR := Option.some.inj ho1243
          subst hR
          have hT := thn_inl H
          have hR := Option.some.inj hT
          subst hR
          exact at_ret1 rfl rfl ⟨_, rfl, rfl, HM⟩
        · replace ho1243 := cond_f hb1264 ho1243
          refine run_skip ?_
          refine at_block ?_
          refine at_then ?_
          refine run_region rfl ?_
          refine ops_ex rfl (guard_none rfl) rfl rfl (ex_move rfl rfl) ?_
          refine ops_ex rfl (guard_none rfl) rfl rfl (ex_add rfl rfl rfl) ?_
          refine ops_ex rfl (guard_none rfl) rfl rfl (ex_assign rfl rfl) ?_
          refine ops_nil ?_
          exact at_again k1257 (ρ1 := [(0, p0), (1, p1), (5, .int .i64 (wrap64 (a1250 + 1)))]) (Nat.lt_succ_self _) ⟨_, ho1243, rfl, HM⟩ (Sub.cons rfl (Sub.cons rfl (Sub.cons rfl Sub.nil)))
      · replace ho1243 := cond_f hb1259 ho1243
        refine run_exit ?_
        refine at_then_exit ?_
        refine at_then_exit ?_
        refine at_block_exit ?_
        exact at_mid (ρ' := []) ⟨(Option.some.inj ho1243), rfl, HM⟩ Sub.nil
    · rintro _ w1265 ⟨rfl, rfl, HM⟩
      replace H := (thn_inr H)
      refine run_seq ?_
      refine run_region rfl ?_
      refine ops_ex rfl (guard_none rfl) rfl rfl (ex_assign rfl rfl) ?_
      refine ops_nil ?_
      refine at_then ?_
      refine run_ret ?_
      have hR := Option.some.inj H
      subst hR
      exact at_ret1 rfl rfl ⟨_, rfl, rfl, HM⟩

def spec_l8Same.f (k : Nat) (x0 : State) (x1 : State) : Option Bool := ((bif ((x0.fTip == x1.fTip) && (x0.fHeight == x1.fHeight)) then spec_l4Same.f k x0.fCoins x1.fCoins else some default).bind fun t1268 => ((bif (((x0.fTip == x1.fTip) && (x0.fHeight == x1.fHeight)) && t1268) then spec_l6Same.f k x0.fMembers x1.fMembers else some default).bind fun t1270 => some ((((x0.fTip == x1.fTip) && (x0.fHeight == x1.fHeight)) && t1268) && t1270)))
theorem spec_l8Same.calls {k : Nat} {x0 : State} {x1 : State} {b0 f0 : Nat} {p0_0 : Value} {p0_1 : Value} {b1 f1 : Nat} {p1_0 : Value} {p1_1 : Value} {w : World} (hc0 : CellsAt w b0 f0 [.int .i64 x0.fTip, .int .i64 x0.fHeight, p0_0, p0_1]) (hp0_0 : RdS kCoin w p0_0 x0.fCoins) (hp0_1 : RdS kMember w p0_1 x0.fMembers) (hc1 : CellsAt w b1 f1 [.int .i64 x1.fTip, .int .i64 x1.fHeight, p1_0, p1_1]) (hp1_0 : RdS kCoin w p1_0 x1.fCoins) (hp1_1 : RdS kMember w p1_1 x1.fMembers) {r : Bool} (H : spec_l8Same.f k x0 x1 = some r) :
    Calls Try.prog 89 ([.pointer (some ⟨b0, f0, none⟩), .pointer (some ⟨b1, f1, none⟩)] : List Value).toArray w (fun e w_ => ∃ v, e = .returned v ∧ v = (.bool r) ∧ Mem w [] w_ []) := by
  have HM := Mem.start w
  refine calls_run (N := 47) Try.func89 rfl rfl rfl rfl ?_
  unfold spec_l8Same.f at H
  refine run_seq ?_
  refine run_region rfl ?_
  refine ops_ex rfl (guard_none rfl) rfl rfl (ex_assign rfl rfl) ?_
  refine ops_nil ?_
  refine at_then ?_
  refine run_seq ?_
  obtain ⟨t1268, h1269, H⟩ := bind_some H
  obtain ⟨t1270, h1271, H⟩ := bind_some H
  refine run_meet (fun ρ_ w_ => ρ_ = [(4, .bool ((((x0.fTip == x1.fTip) && (x0.fHeight == x1.fHeight)) && t1268) && t1270))] ∧ Mem w [] w_ []) ?_ ?_
  · skip
    refine run_drawf (fun w_ => Mem w [] w_ []) [(0, true), (1, true), (2, true), (3, true), (4, true), (5, true), (6, true), (7, true), (8, true), (9, true), (10, true), (11, true), (12, true), (13, true), (14, true), (15, true), (16, true), (17, true), (18, true), (19, true), (20, true), (21, true), (22, true), (23, true), (24, true), (25, true), (26, true), (27, true), (28, true), (29, false), (30, true), (31, true), (32, true), (33, true), (34, true), (35, true), (36, true), (37, true), (38, true), (39, true), (40, false), (41, true), (42, true)] mixed rfl rfl (by kernel_rfl) ?_
    replace HM := HM.grow (fr_drew _)
    have hS := Mem.suf (M := []) HM
    refine drwp_take rfl (guard_none rfl) rfl rfl (fun w_ hS_ => (ex_move rfl rfl)) hS ?_
    refine drwp_take rfl (guard_none rfl) rfl rfl (fun w_ hS_ => (ex_nilCheck rfl rfl)) hS ?_
    refine drwp_take rfl (guard_none rfl) rfl rfl (fun w_ hS_ => (ex_fieldAddr (off' := f0) rfl rfl Try.underlying51 rfl tsz2 rfl)) hS ?_
    refine drwp_take rfl (guard_none rfl) rfl rfl (fun w_ hS_ => (ex_load1 rfl rfl Try.underlying2 rfl ((hS_.at_ hc0) 0 _ rfl))) hS ?_
    refine drwp_take rfl (guard_none rfl) rfl rfl (fun w_ hS_ => (ex_move rfl rfl)) hS ?_
    refine drwp_take rfl (guard_none rfl) rfl rfl (fun w_ hS_ => (ex_nilCheck rfl rfl)) hS ?_
    refine drwp_take rfl (guard_none rfl) rfl rfl (fun w_ hS_ => (ex_fieldAddr (off' := f1) rfl rfl Try.underlying51 rfl tsz2 rfl)) hS ?_
    refine drwp_take rfl (guard_none rfl) rfl rfl (fun w_ hS_ => (ex_load1 rfl rfl Try.underlying2 rfl ((hS_.at_ hc1) 0 _ rfl))) hS ?_
    refine drwp_take rfl (guard_none rfl) rfl rfl (fun w_ hS_ => (ex_eql rfl rfl rfl)) hS ?_
    refine drwp_take rfl (guard_none rfl) rfl rfl (fun w_ hS_ => (ex_move rfl rfl)) hS ?_
    refine bool_cases (x0.fTip == x1.fTip) (fun hg1272 => ?_) (fun hg1272 => ?_)
    · skip
      refine drwp_take rfl (guard_on rfl rfl rfl hg1272) rfl rfl (fun w_ hS_ => (ex_move rfl rfl)) hS ?_
      refine drwp_take rfl (guard_on rfl rfl rfl hg1272) rfl rfl (fun w_ hS_ => (ex_nilCheck rfl rfl)) hS ?_
      refine drwp_take rfl (guard_on rfl rfl rfl hg1272) rfl rfl (fun w_ hS_ => (ex_fieldAddr (off' := f0 + 1) rfl rfl Try.underlying51 rfl tsz2 rfl)) hS ?_
      refine drwp_take rfl (guard_on rfl rfl rfl hg1272) rfl rfl (fun w_ hS_ => (ex_load1 rfl rfl Try.underlying2 rfl ((hS_.at_ hc0) 1 _ rfl))) hS ?_
      refine drwp_take rfl (guard_on rfl rfl rfl hg1272) rfl rfl (fun w_ hS_ => (ex_move rfl rfl)) hS ?_
      refine drwp_take rfl (guard_on rfl rfl rfl hg1272) rfl rfl (fun w_ hS_ => (ex_nilCheck rfl rfl)) hS ?_
      refine drwp_take rfl (guard_on rfl rfl rfl hg1272) rfl rfl (fun w_ hS_ => (ex_fieldAddr (off' := f1 + 1) rfl rfl Try.underlying51 rfl tsz2 rfl)) hS ?_
      refine drwp_take rfl (guard_on rfl rfl rfl hg1272) rfl rfl (fun w_ hS_ => (ex_load1 rfl rfl Try.underlying2 rfl ((hS_.at_ hc1) 1 _ rfl))) hS ?_
      refine drwp_take rfl (guard_on rfl rfl rfl hg1272) rfl rfl (fun w_ hS_ => (ex_eql rfl rfl rfl)) hS ?_
      refine drwp_take (v := .bool ((x0.fTip == x1.fTip) && (x0.fHeight == x1.fHeight))) rfl (guard_none rfl) rfl rfl (fun w_ hS_ => (ex_pand_t rfl rfl hg1272 rfl)) hS ?_
      refine drwp_take rfl (guard_none rfl) rfl rfl (fun w_ hS_ => (ex_move rfl rfl)) hS ?_
      refine bool_cases ((x0.fTip == x1.fTip) && (x0.fHeight == x1.fHeight)) (fun hg1273 => ?_) (fun hg1273 => ?_)
      · skip
        refine drwp_take rfl (guard_on rfl rfl rfl hg1273) rfl rfl (fun w_ hS_ => (ex_move rfl rfl)) hS ?_
        refine drwp_take rfl (guard_on rfl rfl rfl hg1273) rfl rfl (fun w_ hS_ => (ex_nilCheck rfl rfl)) hS ?_
        refine drwp_take rfl (guard_on rfl rfl rfl hg1273) rfl rfl (fun w_ hS_ => (ex_fieldAddr (off' := f0 + 2) rfl rfl Try.underlying51 rfl tsz25 rfl)) hS ?_
        refine drwp_take rfl (guard_on rfl rfl rfl hg1273) rfl rfl (fun w_ hS_ => (ex_load1 rfl rfl Try.underlying25 rfl ((hS_.at_ hc0) 2 _ rfl))) hS ?_
        refine drwp_take rfl (guard_on rfl rfl rfl hg1273) rfl rfl (fun w_ hS_ => (ex_move rfl rfl)) hS ?_
        refine drwp_take rfl (guard_on rfl rfl rfl hg1273) rfl rfl (fun w_ hS_ => (ex_nilCheck rfl rfl)) hS ?_
        refine drwp_take rfl (guard_on rfl rfl rfl hg1273) rfl rfl (fun w_ hS_ => (ex_fieldAddr (off' := f1 + 2) rfl rfl Try.underlying51 rfl tsz25 rfl)) hS ?_
        refine drwp_take rfl (guard_on rfl rfl rfl hg1273) rfl rfl (fun w_ hS_ => (ex_load1 rfl rfl Try.underlying25 rfl ((hS_.at_ hc1) 2 _ rfl))) hS ?_
        refine drwp_one rfl (guard_on rfl rfl rfl hg1273) rfl rfl (does_callk rfl callok63 rfl (spec_l4Same.calls (x0 := x0.fCoins) (x1 := x1.fCoins) (HM.rd hp0_0) (HM.rd hp1_0) (cond_t hg1273 h1269))) ?_
        rintro _ w1274 ⟨rfl, hn⟩
        replace HM : Mem w [] w1274 [] := HM.call hn
        refine ⟨Mem.suf (M := []) HM, ?_⟩
        have hS := Mem.suf (M := []) HM
        refine drwp_take (v := .bool (((x0.fTip == x1.fTip) && (x0.fHeight == x1.fHeight)) && t1268)) rfl (guard_none rfl) rfl rfl (fun w_ hS_ => (ex_pand_t rfl rfl hg1273 rfl)) hS ?_
        refine drwp_take rfl (guard_none rfl) rfl rfl (fun w_ hS_ => (ex_move rfl rfl)) hS ?_
        refine bool_cases (((x0.fTip == x1.fTip) && (x0.fHeight == x1.fHeight)) && t1268) (fun hg1275 => ?_) (fun hg1275 => ?_)
        · skip
          refine drwp_take rfl (guard_on rfl rfl rfl hg1275) rfl rfl (fun w_ hS_ => (ex_move rfl rfl)) hS ?_
          refine drwp_take rfl (guard_on rfl rfl rfl hg1275) rfl rfl (fun w_ hS_ => (ex_nilCheck rfl rfl)) hS ?_
          refine drwp_take rfl (guard_on rfl rfl rfl hg1275) rfl rfl (fun w_ hS_ => (ex_fieldAddr (off' := f0 + 3) rfl rfl Try.underlying51 rfl tsz49 rfl)) hS ?_
          refine drwp_take rfl (guard_on rfl rfl rfl hg1275) rfl rfl (fun w_ hS_ => (ex_load1 rfl rfl Try.underlying49 rfl ((hS_.at_ hc0) 3 _ rfl))) hS ?_
          refine drwp_take rfl (guard_on rfl rfl rfl hg1275) rfl rfl (fun w_ hS_ => (ex_move rfl rfl)) hS ?_
          refine drwp_take rfl (guard_on rfl rfl rfl hg1275) rfl rfl (fun w_ hS_ => (ex_nilCheck rfl rfl)) hS ?_
          refine drwp_take rfl (guard_on rfl rfl rfl hg1275) rfl rfl (fun w_ hS_ => (ex_fieldAddr (off' := f1 + 3) rfl rfl Try.underlying51 rfl tsz49 rfl)) hS ?_
          refine drwp_take rfl (guard_on rfl rfl rfl hg1275) rfl rfl (fun w_ hS_ => (ex_load1 rfl rfl Try.underlying49 rfl ((hS_.at_ hc1) 3 _ rfl))) hS ?_
          refine drwp_one rfl (guard_on rfl rfl rfl hg1275) rfl rfl (does_callk rfl callok141 rfl (spec_l6Same.calls (x0 := x0.fMembers) (x1 := x1.fMembers) (HM.rd hp0_1) (HM.rd hp1_1) (cond_t hg1275 h1271))) ?_
          rintro _ w1276 ⟨rfl, hn⟩
          replace HM : Mem w [] w1276 [] := HM.call hn
          refine ⟨Mem.suf (M := []) HM, ?_⟩
          have hS := Mem.suf (M := []) HM
          refine drwp_take (v := .bool ((((x0.fTip == x1.fTip) && (x0.fHeight == x1.fHeight)) && t1268) && t1270)) rfl (guard_none rfl) rfl rfl (fun w_ hS_ => (ex_pand_t rfl rfl hg1275 rfl)) hS ?_
          refine drwp_take rfl (guard_none rfl) rfl rfl (fun w_ hS_ => (ex_assign rfl rfl)) hS ?_
          refine drwp_done ?_
          exact at_meet [(4, .bool ((((x0.fTip == x1.fTip) && (x0.fHeight == x1.fHeight)) && t1268) && t1270))] ⟨rfl, HM⟩ (Sub.cons rfl Sub.nil)
        · skip
          refine drwp_off rfl (guard_off rfl rfl rfl hg1275) rfl rfl hS ?_
          refine drwp_off rfl (guard_off rfl rfl rfl hg1275) rfl rfl hS ?_
          refine drwp_off rfl (guard_off rfl rfl rfl hg1275) rfl rfl hS ?_
          refine drwp_off rfl (guard_off rfl rfl rfl hg1275) rfl rfl hS ?_
          refine drwp_off rfl (guard_off rfl rfl rfl hg1275) rfl rfl hS ?_
          refine drwp_off rfl (guard_off rfl rfl rfl hg1275) rfl rfl hS ?_
          refine drwp_off rfl (guard_off rfl rfl rfl hg1275) rfl rfl hS ?_
          refine drwp_off rfl (guard_off rfl rfl rfl hg1275) rfl rfl hS ?_
          refine drwp_off1 rfl (guard_off rfl rfl rfl hg1275) rfl rfl ⟨hS, ?_⟩
          have hg1277 : ((((x0.fTip == x1.fTip) && (x0.fHeight == x1.fHeight)) && t1268) && t1270) = false := by simp only [hg1275, Bool.and_true, Bool.true_and, Bool.and_false, Bool.false_and, Bool.or_true, Bool.true_or, Bool.or_false, Bool.false_or, Bool.not_true, Bool.not_false, Bool.not_not]
          refine drwp_take (v := .bool ((((x0.fTip == x1.fTip) && (x0.fHeight == x1.fHeight)) && t1268) && t1270)) rfl (guard_none rfl) rfl rfl (fun w_ hS_ => (ex_pand_f rfl rfl hg1275)) hS ?_
          refine drwp_take rfl (guard_none rfl) rfl rfl (fun w_ hS_ => (ex_assign rfl rfl)) hS ?_
          refine drwp_done ?_
          exact at_meet [(4, .bool ((((x0.fTip == x1.fTip) && (x0.fHeight == x1.fHeight)) && t1268) && t1270))] ⟨rfl, HM⟩ (Sub.cons rfl Sub.nil)
      · skip
        refine drwp_off rfl (guard_off rfl rfl rfl hg1273) rfl rfl hS ?_
        refine drwp_off rfl (guard_off rfl rfl rfl hg1273) rfl rfl hS ?_
        refine drwp_off rfl (guard_off rfl rfl rfl hg1273) rfl rfl hS ?_
        refine drwp_off rfl (guard_off rfl rfl rfl hg1273) rfl rfl hS ?_
        refine drwp_off rfl (guard_off rfl rfl rfl hg1273) rfl rfl hS ?_
        refine drwp_off rfl (guard_off rfl rfl rfl hg1273) rfl rfl hS ?_
        refine drwp_off rfl (guard_off rfl rfl rfl hg1273) rfl rfl hS ?_
        refine drwp_off rfl (guard_off rfl rfl rfl hg1273) rfl rfl hS ?_
        refine drwp_off1 rfl (guard_off rfl rfl rfl hg1273) rfl rfl ⟨hS, ?_⟩
        have hg1278 : (((x0.fTip == x1.fTip) && (x0.fHeight == x1.fHeight)) && t1268) = false := by simp only [hg1273, Bool.and_true, Bool.true_and, Bool.and_false, Bool.false_and, Bool.or_true, Bool.true_or, Bool.or_false, Bool.false_or, Bool.not_true, Bool.not_false, Bool.not_not]
        refine drwp_take (v := .bool (((x0.fTip == x1.fTip) && (x0.fHeight == x1.fHeight)) && t1268)) rfl (guard_none rfl) rfl rfl (fun w_ hS_ => (ex_pand_f rfl rfl hg1273)) hS ?_
        refine drwp_take rfl (guard_none rfl) rfl rfl (fun w_ hS_ => (ex_move rfl rfl)) hS ?_
        refine drwp_off rfl (guard_off rfl rfl rfl hg1278) rfl rfl hS ?_
        refine drwp_off rfl (guard_off rfl rfl rfl hg1278) rfl rfl hS ?_
        refine drwp_off rfl (guard_off rfl rfl rfl hg1278) rfl rfl hS ?_
        refine drwp_off rfl (guard_off rfl rfl rfl hg1278) rfl rfl hS ?_
        refine drwp_off rfl (guard_off rfl rfl rfl hg1278) rfl rfl hS ?_
        refine drwp_off rfl (guard_off rfl rfl rfl hg1278) rfl rfl hS ?_
        refine drwp_off rfl (guard_off rfl rfl rfl hg1278) rfl rfl hS ?_
        refine drwp_off rfl (guard_off rfl rfl rfl hg1278) rfl rfl hS ?_
        refine drwp_off1 rfl (guard_off rfl rfl rfl hg1278) rfl rfl ⟨hS, ?_⟩
        have hg1279 : ((((x0.fTip == x1.fTip) && (x0.fHeight == x1.fHeight)) && t1268) && t1270) = false := by simp only [hg1278, Bool.and_true, Bool.true_and, Bool.and_false, Bool.false_and, Bool.or_true, Bool.true_or, Bool.or_false, Bool.false_or, Bool.not_true, Bool.not_false, Bool.not_not]
        refine drwp_take (v := .bool ((((x0.fTip == x1.fTip) && (x0.fHeight == x1.fHeight)) && t1268) && t1270)) rfl (guard_none rfl) rfl rfl (fun w_ hS_ => (ex_pand_f rfl rfl hg1278)) hS ?_
        refine drwp_take rfl (guard_none rfl) rfl rfl (fun w_ hS_ => (ex_assign rfl rfl)) hS ?_
        refine drwp_done ?_
        exact at_meet [(4, .bool ((((x0.fTip == x1.fTip) && (x0.fHeight == x1.fHeight)) && t1268) && t1270))] ⟨rfl, HM⟩ (Sub.cons rfl Sub.nil)
    · skip
      refine drwp_off rfl (guard_off rfl rfl rfl hg1272) rfl rfl hS ?_
      refine drwp_off rfl (guard_off rfl rfl rfl hg1272) rfl rfl hS ?_
      refine drwp_off rfl (guard_off rfl rfl rfl hg1272) rfl rfl hS ?_
      refine drwp_off rfl (guard_off rfl rfl rfl hg1272) rfl rfl hS ?_
      refine drwp_off rfl (guard_off rfl rfl rfl hg1272) rfl rfl hS ?_
      refine drwp_off rfl (guard_off rfl rfl rfl hg1272) rfl rfl hS ?_
      refine drwp_off rfl (guard_off rfl rfl rfl hg1272) rfl rfl hS ?_
      refine drwp_off rfl (guard_off rfl rfl rfl hg1272) rfl rfl hS ?_
      refine drwp_off rfl (guard_off rfl rfl rfl hg1272) rfl rfl hS ?_
      have hg1280 : ((x0.fTip == x1.fTip) && (x0.fHeight == x1.fHeight)) = false := by simp only [hg1272, Bool.and_true, Bool.true_and, Bool.and_false, Bool.false_and, Bool.or_true, Bool.true_or, Bool.or_false, Bool.false_or, Bool.not_true, Bool.not_false, Bool.not_not]
      refine drwp_take (v := .bool ((x0.fTip == x1.fTip) && (x0.fHeight == x1.fHeight))) rfl (guard_none rfl) rfl rfl (fun w_ hS_ => (ex_pand_f rfl rfl hg1272)) hS ?_
      refine drwp_take rfl (guard_none rfl) rfl rfl (fun w_ hS_ => (ex_move rfl rfl)) hS ?_
      refine drwp_off rfl (guard_off rfl rfl rfl hg1280) rfl rfl hS ?_
      refine drwp_off rfl (guard_off rfl rfl rfl hg1280) rfl rfl hS ?_
      refine drwp_off rfl (guard_off rfl rfl rfl hg1280) rfl rfl hS ?_
      refine drwp_off rfl (guard_off rfl rfl rfl hg1280) rfl rfl hS ?_
      refine drwp_off rfl (guard_off rfl rfl rfl hg1280) rfl rfl hS ?_
      refine drwp_off rfl (guard_off rfl rfl rfl hg1280) rfl rfl hS ?_
      refine drwp_off rfl (guard_off rfl rfl rfl hg1280) rfl rfl hS ?_
      refine drwp_off rfl (guard_off rfl rfl rfl hg1280) rfl rfl hS ?_
      refine drwp_off1 rfl (guard_off rfl rfl rfl hg1280) rfl rfl ⟨hS, ?_⟩
      have hg1281 : (((x0.fTip == x1.fTip) && (x0.fHeight == x1.fHeight)) && t1268) = false := by simp only [hg1280, Bool.and_true, Bool.true_and, Bool.and_false, Bool.false_and, Bool.or_true, Bool.true_or, Bool.or_false, Bool.false_or, Bool.not_true, Bool.not_false, Bool.not_not]
      refine drwp_take (v := .bool (((x0.fTip == x1.fTip) && (x0.fHeight == x1.fHeight)) && t1268)) rfl (guard_none rfl) rfl rfl (fun w_ hS_ => (ex_pand_f rfl rfl hg1280)) hS ?_
      refine drwp_take rfl (guard_none rfl) rfl rfl (fun w_ hS_ => (ex_move rfl rfl)) hS ?_
      refine drwp_off rfl (guard_off rfl rfl rfl hg1281) rfl rfl hS ?_
      refine drwp_off rfl (guard_off rfl rfl rfl hg1281) rfl rfl hS ?_
      refine drwp_off rfl (guard_off rfl rfl rfl hg1281) rfl rfl hS ?_
      refine drwp_off rfl (guard_off rfl rfl rfl hg1281) rfl rfl hS ?_
      refine drwp_off rfl (guard_off rfl rfl rfl hg1281) rfl rfl hS ?_
      refine drwp_off rfl (guard_off rfl rfl rfl hg1281) rfl rfl hS ?_
      refine drwp_off rfl (guard_off rfl rfl rfl hg1281) rfl rfl hS ?_
      refine drwp_off rfl (guard_off rfl rfl rfl hg1281) rfl rfl hS ?_
      refine drwp_off1 rfl (guard_off rfl rfl rfl hg1281) rfl rfl ⟨hS, ?_⟩
      have hg1282 : ((((x0.fTip == x1.fTip) && (x0.fHeight == x1.fHeight)) && t1268) && t1270) = false := by simp only [hg1281, Bool.and_true, Bool.true_and, Bool.and_false, Bool.false_and, Bool.or_true, Bool.true_or, Bool.or_false, Bool.false_or, Bool.not_true, Bool.not_false, Bool.not_not]
      refine drwp_take (v := .bool ((((x0.fTip == x1.fTip) && (x0.fHeight == x1.fHeight)) && t1268) && t1270)) rfl (guard_none rfl) rfl rfl (fun w_ hS_ => (ex_pand_f rfl rfl hg1281)) hS ?_
      refine drwp_take rfl (guard_none rfl) rfl rfl (fun w_ hS_ => (ex_assign rfl rfl)) hS ?_
      refine drwp_done ?_
      exact at_meet [(4, .bool ((((x0.fTip == x1.fTip) && (x0.fHeight == x1.fHeight)) && t1268) && t1270))] ⟨rfl, HM⟩ (Sub.cons rfl Sub.nil)
  · rintro _ w1283 ⟨rfl, HM⟩
    refine at_then ?_
    refine run_ret ?_
    have hR := Option.some.inj H
    subst hR
    exact at_ret1 rfl rfl ⟨_, rfl, rfl, HM⟩

def spec_SameStates.f (k : Nat) (x0 : State) (x1 : State) : Option Bool := ((spec_l8Same.f k x0 x1).bind fun t1294 => some t1294)
theorem spec_SameStates.calls {k : Nat} {x0 : State} {x1 : State} {p0_0 : Value} {p0_1 : Value} {p1_0 : Value} {p1_1 : Value} {w : World} (hp0_0 : RdS kCoin w p0_0 x0.fCoins) (hp0_1 : RdS kMember w p0_1 x0.fMembers) (hp1_0 : RdS kCoin w p1_0 x1.fCoins) (hp1_1 : RdS kMember w p1_1 x1.fMembers) {r : Bool} (H : spec_SameStates.f k x0 x1 = some r) :
    Calls Try.prog 30 ([.agg #[(.int .i64 x0.fTip), (.int .i64 x0.fHeight), p0_0, p0_1], .agg #[(.int .i64 x1.fTip), (.int .i64 x1.fHeight), p1_0, p1_1]] : List Value).toArray w (fun e w_ => ∃ v, e = .returned v ∧ v = (.bool r) ∧ Mem w [] w_ []) := by
  have HM := Mem.start w
  refine calls_run (N := 6) Try.func30 rfl rfl rfl rfl ?_
  unfold spec_SameStates.f at H
  refine run_seq ?_
  refine run_region rfl ?_
  refine ops_does rfl (guard_none rfl) rfl rfl (does_box (cs := [.int .i64 x0.fTip, .int .i64 x0.fHeight, p0_0, p0_1]) rfl rfl rfl HM) ?_
  rintro _ w1292 ⟨b1286, rfl, HM⟩
  refine ops_does rfl (guard_none rfl) rfl rfl (does_box (cs := [.int .i64 x1.fTip, .int .i64 x1.fHeight, p1_0, p1_1]) rfl rfl rfl HM) ?_
  rintro _ w1293 ⟨b1289, rfl, HM⟩
  refine ops_ex rfl (guard_none rfl) rfl rfl (ex_assign rfl rfl) ?_
  refine ops_nil ?_
  refine at_then ?_
  refine run_seq ?_
  obtain ⟨t1294, h1295, H⟩ := bind_some H
  refine run_region rfl ?_
  refine ops_does rfl (guard_none rfl) rfl rfl (does_callk rfl callok89 rfl (spec_l8Same.calls (x0 := x0) (x1 := x1) (HM.box_at 1 rfl) (HM.rd hp0_0) (HM.rd hp0_1) (HM.box_at 0 rfl) (HM.rd hp1_0) (HM.rd hp1_1) h1295)) ?_
  rintro _ w1296 ⟨rfl, hn⟩
  replace HM : Mem w [] w1296 [box b1289 51 [.int .i64 x1.fTip, .int .i64 x1.fHeight, p1_0, p1_1], box b1286 51 [.int .i64 x0.fTip, .int .i64 x0.fHeight, p0_0, p0_1]] := HM.call hn
  refine ops_ex rfl (guard_none rfl) rfl rfl (ex_assign rfl rfl) ?_
  refine ops_nil ?_
  refine at_then ?_
  refine run_ret ?_
  replace HM := (HM.front 0 rfl rfl).drop
  replace HM := (HM.front 0 rfl rfl).drop
  have hR := Option.some.inj H
  subst hR
  exact at_ret1 rfl rfl ⟨_, rfl, rfl, HM⟩

def slices_Equal_int64.l0 (x0 : List Int) (x1 : List Int) : Nat → Int → Option (Bool ⊕ Unit)
  | 0, _ => none
  | k + 1, a1410 => (bif (decide (a1410 < (x0.length : Int))) then (chk (idxOk a1410 x0.length) (chk (idxOk a1410 x1.length) (bif ((gt x0 a1410) != (gt x1 a1410)) then some (.inl false) else slices_Equal_int64.l0 x0 x1 k (wrap64 (a1410 + 1))))) else some (.inr ()))
theorem slices_Equal_int64.l0_z (x0 : List Int) (x1 : List Int) (a1410 : Int) : slices_Equal_int64.l0 x0 x1 0 a1410 = none := rfl
theorem slices_Equal_int64.l0_s (x0 : List Int) (x1 : List Int) (k : Nat) (a1410 : Int) : slices_Equal_int64.l0 x0 x1 (k + 1) a1410 = (bif (decide (a1410 < (x0.length : Int))) then (chk (idxOk a1410 x0.length) (chk (idxOk a1410 x1.length) (bif ((gt x0 a1410) != (gt x1 a1410)) then some (.inl false) else slices_Equal_int64.l0 x0 x1 k (wrap64 (a1410 + 1))))) else some (.inr ())) := rfl
def slices_Equal_int64.f (k : Nat) (x0 : List Int) (x1 : List Int) : Option Bool := (bif ((x0.length : Int) != (x1.length : Int)) then some false else ((slices_Equal_int64.l0 x0 x1 k 0).bind fun o1402 => thn o1402 (fun r => some r) (fun _ => some true)))
theorem slices_Equal_int64.calls {k : Nat} {x0 : List Int} {x1 : List Int} {p0 : Value} {p1 : Value} {w : World} (hp0 : RdS kInt w p0 x0) (hp1 : RdS kInt w p1 x1) {r : Bool} (H : slices_Equal_int64.f k x0 x1 = some r) :
    Calls Try.prog 160 ([p0, p1] : List Value).toArray w (fun e w_ => ∃ v, e = .returned v ∧ v = (.bool r) ∧ Mem w [] w_ []) := by
  have HM := Mem.start w
  refine calls_run (N := 26) Try.func160 rfl rfl rfl rfl ?_
  unfold slices_Equal_int64.f at H
  refine run_seq ?_
  refine run_region rfl ?_
  refine ops_ex rfl (guard_none rfl) rfl rfl (ex_assign rfl rfl) ?_
  refine ops_nil ?_
  refine at_then ?_
  refine run_seq ?_
  refine run_seq ?_
  refine run_region rfl ?_
  refine ops_ex rfl (guard_none rfl) rfl rfl (ex_move rfl rfl) ?_
  refine ops_ex rfl (guard_none rfl) rfl rfl (ex_len (d := kInt) (xs := x0) rfl rfl Try.underlying74 hp0) ?_
  refine ops_ex rfl (guard_none rfl) rfl rfl (ex_move rfl rfl) ?_
  refine ops_ex rfl (guard_none rfl) rfl rfl (ex_len (d := kInt) (xs := x1) rfl rfl Try.underlying74 hp1) ?_
  refine ops_ex rfl (guard_none rfl) rfl rfl (ex_neq rfl rfl rfl) ?_
  refine ops_nil ?_
  refine at_then ?_
  refine run_cond (b := ((x0.length : Int) != (x1.length : Int))) rfl (fun hb1382 => ?_) (fun hb1382 => ?_)
  · replace H := cond_t hb1382 H
    refine run_seq ?_
    refine run_region rfl ?_
    refine ops_ex rfl (guard_none rfl) rfl rfl (ex_assign rfl rfl) ?_
    refine ops_nil ?_
    refine at_then ?_
    refine run_ret ?_
    refine at_then_ret ?_
    have hR := Option.some.inj H
    subst hR
    exact at_ret1 rfl rfl ⟨_, rfl, rfl, HM⟩
  · replace H := cond_f hb1382 H
    refine run_skip ?_
    refine at_then ?_
    obtain ⟨o1402, ho1403, H⟩ := bind_some H
    refine run_mid (fun ρ_ w_ => Sum.inr () = o1402 ∧ ρ_ = [] ∧ Mem w [] w_ []) ?_ ?_
    · skip
      refine run_seq ?_
      refine run_region rfl ?_
      refine ops_ex rfl (guard_none rfl) rfl rfl (ex_move rfl rfl) ?_
      refine ops_ex rfl (guard_none rfl) rfl rfl (ex_len (d := kInt) (xs := x0) rfl rfl Try.underlying74 hp0) ?_
      refine ops_ex rfl (guard_none rfl) rfl rfl (ex_move rfl rfl) ?_
      refine ops_nil ?_
      refine at_then ?_
      refine run_block ?_
      refine run_loop (fun k_ ρ_ w_ => ∃ a1410 : Int, slices_Equal_int64.l0 x0 x1 k_ a1410 = some o1402 ∧ ρ_ = [(0, p0), (1, p1), (12, .int .i64 (x0.length : Int)), (13, .int .i64 a1410)] ∧ Mem w [] w_ []) k (ρ1 := [(0, p0), (1, p1), (12, .int .i64 (x0.length : Int)), (13, .int .i64 0)]) ⟨_, ho1403, rfl, HM⟩ (Sub.cons rfl (Sub.cons rfl (Sub.cons rfl (Sub.cons rfl Sub.nil)))) ?_
      clear HM ho1403
      rintro k1417 _ w1418 ⟨a1410, ho1403, rfl, HM⟩
      obtain _ | k1417 := k1417
      · exact nomatch ((slices_Equal_int64.l0_z x0 x1 a1410).symm.trans ho1403)
      replace ho1403 := (slices_Equal_int64.l0_s x0 x1 k1417 a1410).symm.trans ho1403
      refine run_seq ?_
      refine run_region rfl ?_
      refine ops_ex rfl (guard_none rfl) rfl rfl (ex_lss rfl rfl rfl) ?_
      refine ops_nil ?_
      refine at_then ?_
      refine run_seq ?_
      refine run_cond (b := (decide (a1410 < (x0.length : Int)))) rfl (fun hb1419 => ?_) (fun hb1419 => ?_)
      · replace ho1403 := cond_t hb1419 ho1403
        refine run_skip ?_
        refine at_then ?_
        refine run_seq ?_
        refine run_block ?_
        refine run_seq ?_
        refine run_region rfl ?_
        refine ops_ex rfl (guard_none rfl) rfl rfl (ex_move rfl rfl) ?_
        refine ops_ex rfl (guard_none rfl) rfl rfl (ex_assign rfl rfl) ?_
        refine ops_nil ?_
        refine at_then ?_
        refine run_seq ?_
        obtain ⟨e1420, ho1403⟩ := chk_some ho1403
        obtain ⟨e1422, ho1403⟩ := chk_some ho1403
        refine run_drawf (fun w_ => Mem w [] w_ []) [(0, true), (1, true), (2, true), (3, true), (4, true), (5, true), (6, true), (7, true), (8, true)] mixed rfl rfl (by kernel_rfl) ?_
        replace HM := HM.grow (fr_drew _)
        have hS := Mem.suf (M := []) HM
        refine drwp_take rfl (guard_none rfl) rfl rfl (fun w_ hS_ => (ex_move rfl rfl)) hS ?_
        refine drwp_take rfl (guard_none rfl) rfl rfl (fun w_ hS_ => (ex_move rfl rfl)) hS ?_
        have hc1421 : CellsAt _ (sb p0) (so p0 + (a1410).toNat * 1) [(.int .i64 (gt x0 a1410))] := rd_plain hp0 e1420
        refine drwp_take rfl (guard_none rfl) rfl rfl (fun w_ hS_ => (ex_indexAddr (d := kInt) rfl rfl rfl Try.underlying74 tsz2 hp0 (idx_lo e1420) (idx_hi e1420))) hS ?_
        refine drwp_take rfl (guard_none rfl) rfl rfl (fun w_ hS_ => (ex_load1 rfl rfl Try.underlying2 rfl ((hS_.at_ hc1421) 0 _ rfl))) hS ?_
        refine drwp_take rfl (guard_none rfl) rfl rfl (fun w_ hS_ => (ex_move rfl rfl)) hS ?_
        refine drwp_take rfl (guard_none rfl) rfl rfl (fun w_ hS_ => (ex_move rfl rfl)) hS ?_
        have hc1423 : CellsAt _ (sb p1) (so p1 + (a1410).toNat * 1) [(.int .i64 (gt x1 a1410))] := rd_plain hp1 e1422
        refine drwp_take rfl (guard_none rfl) rfl rfl (fun w_ hS_ => (ex_indexAddr (d := kInt) rfl rfl rfl Try.underlying74 tsz2 hp1 (idx_lo e1422) (idx_hi e1422))) hS ?_
        refine drwp_take rfl (guard_none rfl) rfl rfl (fun w_ hS_ => (ex_load1 rfl rfl Try.underlying2 rfl ((hS_.at_ hc1423) 0 _ rfl))) hS ?_
        refine drwp_take rfl (guard_none rfl) rfl rfl (fun w_ hS_ => (ex_neq rfl rfl rfl)) hS ?_
        refine drwp_done ?_
        refine at_then ?_
        refine run_cond (b := ((gt x0 a1410) != (gt x1 a1410))) rfl (fun hb1424 => ?_) (fun hb1424 => ?_)
        · replace ho1403 := cond_t hb1424 ho1403
          refine run_seq ?_
          refine run_region rfl ?_
          refine ops_ex rfl (guard_none rfl) rfl rfl (ex_assign rfl rfl) ?_
          refine ops_nil ?_
          refine at_then ?_
          refine run_ret ?_
          refine at_block_ret ?_
          refine at_then_ret ?_
          refine at_then_ret ?_
          refine at_block_ret ?_
          refine at_then_ret ?_
          have hR := Option.some.inj ho1403
          subst hR
          have hT := thn_inl H
          have hR := Option.some.inj hT
          subst hR
          exact at_ret1 rfl rfl ⟨_, rfl, rfl, HM⟩
        · replace ho1403 := cond_f hb1424 ho1403
          refine run_skip ?_
          refine at_block ?_
          refine at_then ?_
          refine run_region rfl ?_
          refine ops_ex rfl (guard_none rfl) rfl rfl (ex_add rfl rfl rfl) ?_
          refine ops_ex rfl (guard_none rfl) rfl rfl (ex_move rfl rfl) ?_
          refine ops_nil ?_
          exact at_again k1417 (ρ1 := [(0, p0), (1, p1), (12, .int .i64 (x0.length : Int)), (13, .int .i64 (wrap64 (a1410 + 1)))]) (Nat.lt_succ_self _) ⟨_, ho1403, rfl, HM⟩ (Sub.cons rfl (Sub.cons rfl (Sub.cons rfl (Sub.cons rfl Sub.nil))))
      · replace ho1403 := cond_f hb1419 ho1403
        refine run_exit ?_
        refine at_then_exit ?_
        refine at_then_exit ?_
        refine at_block_exit ?_
        exact at_mid (ρ' := []) ⟨(Option.some.inj ho1403), rfl, HM⟩ Sub.nil
    · rintro _ w1425 ⟨rfl, rfl, HM⟩
      replace H := (thn_inr H)
      refine run_seq ?_
      refine run_region rfl ?_
      refine ops_ex rfl (guard_none rfl) rfl rfl (ex_assign rfl rfl) ?_
      refine ops_nil ?_
      refine at_then ?_
      refine run_ret ?_
      have hR := Option.some.inj H
      subst hR
      exact at_ret1 rfl rfl ⟨_, rfl, rfl, HM⟩

def impl_SameRules.f (k : Nat) (x0 : Rule) (x1 : Rule) : Option Bool := ((slices_Equal_int64.f k x0.fKeys x1.fKeys).bind fun t1436 => some ((t1436 && (x0.fNeed == x1.fNeed)) && (x0.fAfter == x1.fAfter)))
theorem impl_SameRules.calls {k : Nat} {x0 : Rule} {x1 : Rule} {p0_0 : Value} {p1_0 : Value} {w : World} (hp0_0 : RdS kInt w p0_0 x0.fKeys) (hp1_0 : RdS kInt w p1_0 x1.fKeys) {r : Bool} (H : impl_SameRules.f k x0 x1 = some r) :
    Calls Try.prog 126 ([.agg #[p0_0, (.int .i64 x0.fNeed), (.int .i64 x0.fAfter)], .agg #[p1_0, (.int .i64 x1.fNeed), (.int .i64 x1.fAfter)]] : List Value).toArray w (fun e w_ => ∃ v, e = .returned v ∧ v = (.bool r) ∧ Mem w [] w_ []) := by
  have HM := Mem.start w
  refine calls_run (N := 24) Try.func126 rfl rfl rfl rfl ?_
  unfold impl_SameRules.f at H
  refine run_seq ?_
  refine run_region rfl ?_
  refine ops_does rfl (guard_none rfl) rfl rfl (does_box (cs := [p0_0, .int .i64 x0.fNeed, .int .i64 x0.fAfter]) rfl rfl rfl HM) ?_
  rintro _ w1434 ⟨b1428, rfl, HM⟩
  refine ops_does rfl (guard_none rfl) rfl rfl (does_box (cs := [p1_0, .int .i64 x1.fNeed, .int .i64 x1.fAfter]) rfl rfl rfl HM) ?_
  rintro _ w1435 ⟨b1431, rfl, HM⟩
  refine ops_ex rfl (guard_none rfl) rfl rfl (ex_assign rfl rfl) ?_
  refine ops_nil ?_
  refine at_then ?_
  refine run_seq ?_
  obtain ⟨t1436, h1437, H⟩ := bind_some H
  refine run_meet (fun ρ_ w_ => ρ_ = [(4, .bool ((t1436 && (x0.fNeed == x1.fNeed)) && (x0.fAfter == x1.fAfter)))] ∧ Mem w [] w_ []) ?_ ?_
  · skip
    refine run_region rfl ?_
    refine ops_ex rfl (guard_none rfl) rfl rfl (ex_fieldAddr (off' := 0) rfl rfl Try.underlying100 rfl tsz74 rfl) ?_
    refine ops_ex rfl (guard_none rfl) rfl rfl (ex_load1 rfl rfl Try.underlying74 rfl ((HM.box_at 1 rfl) 0 _ rfl)) ?_
    refine ops_ex rfl (guard_none rfl) rfl rfl (ex_fieldAddr (off' := 0) rfl rfl Try.underlying100 rfl tsz74 rfl) ?_
    refine ops_ex rfl (guard_none rfl) rfl rfl (ex_load1 rfl rfl Try.underlying74 rfl ((HM.box_at 0 rfl) 0 _ rfl)) ?_
    refine ops_does rfl (guard_none rfl) rfl rfl (does_callk rfl callok160 rfl (slices_Equal_int64.calls (x0 := x0.fKeys) (x1 := x1.fKeys) (HM.rd hp0_0) (HM.rd hp1_0) h1437)) ?_
    rintro _ w1438 ⟨rfl, hn⟩
    replace HM : Mem w [] w1438 [box b1431 100 [p1_0, .int .i64 x1.fNeed, .int .i64 x1.fAfter], box b1428 100 [p0_0, .int .i64 x0.fNeed, .int .i64 x0.fAfter]] := HM.call hn
    refine ops_ex rfl (guard_none rfl) rfl rfl (ex_move rfl rfl) ?_
    refine bool_cases t1436 (fun hg1439 => ?_) (fun hg1439 => ?_)
    · skip
      refine ops_ex rfl (guard_on rfl rfl rfl hg1439) rfl rfl (ex_fieldAddr (off' := 1) rfl rfl Try.underlying100 rfl tsz2 rfl) ?_
      refine ops_ex rfl (guard_on rfl rfl rfl hg1439) rfl rfl (ex_load1 rfl rfl Try.underlying2 rfl ((HM.box_at 1 rfl) 1 _ rfl)) ?_
      refine ops_ex rfl (guard_on rfl rfl rfl hg1439) rfl rfl (ex_fieldAddr (off' := 1) rfl rfl Try.underlying100 rfl tsz2 rfl) ?_
      refine ops_ex rfl (guard_on rfl rfl rfl hg1439) rfl rfl (ex_load1 rfl rfl Try.underlying2 rfl ((HM.box_at 0 rfl) 1 _ rfl)) ?_
      refine ops_ex rfl (guard_on rfl rfl rfl hg1439) rfl rfl (ex_eql rfl rfl rfl) ?_
      refine ops_ex (v := .bool (t1436 && (x0.fNeed == x1.fNeed))) rfl (guard_none rfl) rfl rfl (ex_pand_t rfl rfl hg1439 rfl) ?_
      refine ops_ex rfl (guard_none rfl) rfl rfl (ex_move rfl rfl) ?_
      refine bool_cases (t1436 && (x0.fNeed == x1.fNeed)) (fun hg1440 => ?_) (fun hg1440 => ?_)
      · skip
        refine ops_ex rfl (guard_on rfl rfl rfl hg1440) rfl rfl (ex_fieldAddr (off' := 2) rfl rfl Try.underlying100 rfl tsz2 rfl) ?_
        refine ops_ex rfl (guard_on rfl rfl rfl hg1440) rfl rfl (ex_load1 rfl rfl Try.underlying2 rfl ((HM.box_at 1 rfl) 2 _ rfl)) ?_
        refine ops_ex rfl (guard_on rfl rfl rfl hg1440) rfl rfl (ex_fieldAddr (off' := 2) rfl rfl Try.underlying100 rfl tsz2 rfl) ?_
        refine ops_ex rfl (guard_on rfl rfl rfl hg1440) rfl rfl (ex_load1 rfl rfl Try.underlying2 rfl ((HM.box_at 0 rfl) 2 _ rfl)) ?_
        refine ops_ex rfl (guard_on rfl rfl rfl hg1440) rfl rfl (ex_eql rfl rfl rfl) ?_
        refine ops_ex (v := .bool ((t1436 && (x0.fNeed == x1.fNeed)) && (x0.fAfter == x1.fAfter))) rfl (guard_none rfl) rfl rfl (ex_pand_t rfl rfl hg1440 rfl) ?_
        refine ops_ex rfl (guard_none rfl) rfl rfl (ex_assign rfl rfl) ?_
        refine ops_nil ?_
        replace HM := (HM.front 0 rfl rfl).drop
        replace HM := (HM.front 0 rfl rfl).drop
        exact at_meet [(4, .bool ((t1436 && (x0.fNeed == x1.fNeed)) && (x0.fAfter == x1.fAfter)))] ⟨rfl, HM⟩ (Sub.cons rfl Sub.nil)
      · skip
        refine ops_off rfl (guard_off rfl rfl rfl hg1440) rfl rfl ?_
        refine ops_off rfl (guard_off rfl rfl rfl hg1440) rfl rfl ?_
        refine ops_off rfl (guard_off rfl rfl rfl hg1440) rfl rfl ?_
        refine ops_off rfl (guard_off rfl rfl rfl hg1440) rfl rfl ?_
        refine ops_off rfl (guard_off rfl rfl rfl hg1440) rfl rfl ?_
        have hg1441 : ((t1436 && (x0.fNeed == x1.fNeed)) && (x0.fAfter == x1.fAfter)) = false := by simp only [hg1440, Bool.and_true, Bool.true_and, Bool.and_false, Bool.false_and, Bool.or_true, Bool.true_or, Bool.or_false, Bool.false_or, Bool.not_true, Bool.not_false, Bool.not_not]
        refine ops_ex (v := .bool ((t1436 && (x0.fNeed == x1.fNeed)) && (x0.fAfter == x1.fAfter))) rfl (guard_none rfl) rfl rfl (ex_pand_f rfl rfl hg1440) ?_
        refine ops_ex rfl (guard_none rfl) rfl rfl (ex_assign rfl rfl) ?_
        refine ops_nil ?_
        replace HM := (HM.front 0 rfl rfl).drop
        replace HM := (HM.front 0 rfl rfl).drop
        exact at_meet [(4, .bool ((t1436 && (x0.fNeed == x1.fNeed)) && (x0.fAfter == x1.fAfter)))] ⟨rfl, HM⟩ (Sub.cons rfl Sub.nil)
    · skip
      refine ops_off rfl (guard_off rfl rfl rfl hg1439) rfl rfl ?_
      refine ops_off rfl (guard_off rfl rfl rfl hg1439) rfl rfl ?_
      refine ops_off rfl (guard_off rfl rfl rfl hg1439) rfl rfl ?_
      refine ops_off rfl (guard_off rfl rfl rfl hg1439) rfl rfl ?_
      refine ops_off rfl (guard_off rfl rfl rfl hg1439) rfl rfl ?_
      have hg1442 : (t1436 && (x0.fNeed == x1.fNeed)) = false := by simp only [hg1439, Bool.and_true, Bool.true_and, Bool.and_false, Bool.false_and, Bool.or_true, Bool.true_or, Bool.or_false, Bool.false_or, Bool.not_true, Bool.not_false, Bool.not_not]
      refine ops_ex (v := .bool (t1436 && (x0.fNeed == x1.fNeed))) rfl (guard_none rfl) rfl rfl (ex_pand_f rfl rfl hg1439) ?_
      refine ops_ex rfl (guard_none rfl) rfl rfl (ex_move rfl rfl) ?_
      refine ops_off rfl (guard_off rfl rfl rfl hg1442) rfl rfl ?_
      refine ops_off rfl (guard_off rfl rfl rfl hg1442) rfl rfl ?_
      refine ops_off rfl (guard_off rfl rfl rfl hg1442) rfl rfl ?_
      refine ops_off rfl (guard_off rfl rfl rfl hg1442) rfl rfl ?_
      refine ops_off rfl (guard_off rfl rfl rfl hg1442) rfl rfl ?_
      have hg1443 : ((t1436 && (x0.fNeed == x1.fNeed)) && (x0.fAfter == x1.fAfter)) = false := by simp only [hg1442, Bool.and_true, Bool.true_and, Bool.and_false, Bool.false_and, Bool.or_true, Bool.true_or, Bool.or_false, Bool.false_or, Bool.not_true, Bool.not_false, Bool.not_not]
      refine ops_ex (v := .bool ((t1436 && (x0.fNeed == x1.fNeed)) && (x0.fAfter == x1.fAfter))) rfl (guard_none rfl) rfl rfl (ex_pand_f rfl rfl hg1442) ?_
      refine ops_ex rfl (guard_none rfl) rfl rfl (ex_assign rfl rfl) ?_
      refine ops_nil ?_
      replace HM := (HM.front 0 rfl rfl).drop
      replace HM := (HM.front 0 rfl rfl).drop
      exact at_meet [(4, .bool ((t1436 && (x0.fNeed == x1.fNeed)) && (x0.fAfter == x1.fAfter)))] ⟨rfl, HM⟩ (Sub.cons rfl Sub.nil)
  · rintro _ w1444 ⟨rfl, HM⟩
    refine at_then ?_
    refine run_ret ?_
    have hR := Option.some.inj H
    subst hR
    exact at_ret1 rfl rfl ⟨_, rfl, rfl, HM⟩

def impl_sameOuts.f (k : Nat) (x0 : Out) (x1 : Out) : Option Bool := ((bif (x0.fValue == x1.fValue) then impl_SameRules.f k x0.fRule x1.fRule else some default).bind fun t1455 => some ((x0.fValue == x1.fValue) && t1455))
theorem impl_sameOuts.calls {k : Nat} {x0 : Out} {x1 : Out} {p0_0 : Value} {p1_0 : Value} {w : World} (hp0_0 : RdS kInt w p0_0 x0.fRule.fKeys) (hp1_0 : RdS kInt w p1_0 x1.fRule.fKeys) {r : Bool} (H : impl_sameOuts.f k x0 x1 = some r) :
    Calls Try.prog 75 ([.agg #[(.int .i64 x0.fValue), p0_0, (.int .i64 x0.fRule.fNeed), (.int .i64 x0.fRule.fAfter)], .agg #[(.int .i64 x1.fValue), p1_0, (.int .i64 x1.fRule.fNeed), (.int .i64 x1.fRule.fAfter)]] : List Value).toArray w (fun e w_ => ∃ v, e = .returned v ∧ v = (.bool r) ∧ Mem w [] w_ []) := by
  have HM := Mem.start w
  refine calls_run (N := 17) Try.func75 rfl rfl rfl rfl ?_
  unfold impl_sameOuts.f at H
  refine run_seq ?_
  refine run_region rfl ?_
  refine ops_does rfl (guard_none rfl) rfl rfl (does_box (cs := [.int .i64 x0.fValue, p0_0, .int .i64 x0.fRule.fNeed, .int .i64 x0.fRule.fAfter]) rfl rfl rfl HM) ?_
  rintro _ w1453 ⟨b1447, rfl, HM⟩
  refine ops_does rfl (guard_none rfl) rfl rfl (does_box (cs := [.int .i64 x1.fValue, p1_0, .int .i64 x1.fRule.fNeed, .int .i64 x1.fRule.fAfter]) rfl rfl rfl HM) ?_
  rintro _ w1454 ⟨b1450, rfl, HM⟩
  refine ops_ex rfl (guard_none rfl) rfl rfl (ex_assign rfl rfl) ?_
  refine ops_nil ?_
  refine at_then ?_
  refine run_seq ?_
  obtain ⟨t1455, h1456, H⟩ := bind_some H
  refine run_meet (fun ρ_ w_ => ρ_ = [(4, .bool ((x0.fValue == x1.fValue) && t1455))] ∧ Mem w [] w_ []) ?_ ?_
  · skip
    refine run_region rfl ?_
    refine ops_ex rfl (guard_none rfl) rfl rfl (ex_fieldAddr (off' := 0) rfl rfl Try.underlying102 rfl tsz2 rfl) ?_
    refine ops_ex rfl (guard_none rfl) rfl rfl (ex_load1 rfl rfl Try.underlying2 rfl ((HM.box_at 1 rfl) 0 _ rfl)) ?_
    refine ops_ex rfl (guard_none rfl) rfl rfl (ex_fieldAddr (off' := 0) rfl rfl Try.underlying102 rfl tsz2 rfl) ?_
    refine ops_ex rfl (guard_none rfl) rfl rfl (ex_load1 rfl rfl Try.underlying2 rfl ((HM.box_at 0 rfl) 0 _ rfl)) ?_
    refine ops_ex rfl (guard_none rfl) rfl rfl (ex_eql rfl rfl rfl) ?_
    refine ops_ex rfl (guard_none rfl) rfl rfl (ex_move rfl rfl) ?_
    refine bool_cases (x0.fValue == x1.fValue) (fun hg1457 => ?_) (fun hg1457 => ?_)
    · skip
      refine ops_ex rfl (guard_on rfl rfl rfl hg1457) rfl rfl (ex_fieldAddr (off' := 1) rfl rfl Try.underlying102 rfl tsz100 rfl) ?_
      refine ops_ex rfl (guard_on rfl rfl rfl hg1457) rfl rfl (ex_loadN (cs := [p0_0, (.int .i64 x0.fRule.fNeed), (.int .i64 x0.fRule.fAfter)]) rfl rfl Try.underlying100 rfl tsz100 rfl ((HM.box_at 1 rfl).sub 1 3 rfl)) ?_
      refine ops_ex rfl (guard_on rfl rfl rfl hg1457) rfl rfl (ex_fieldAddr (off' := 1) rfl rfl Try.underlying102 rfl tsz100 rfl) ?_
      refine ops_ex rfl (guard_on rfl rfl rfl hg1457) rfl rfl (ex_loadN (cs := [p1_0, (.int .i64 x1.fRule.fNeed), (.int .i64 x1.fRule.fAfter)]) rfl rfl Try.underlying100 rfl tsz100 rfl ((HM.box_at 0 rfl).sub 1 3 rfl)) ?_
      refine ops_does rfl (guard_on rfl rfl rfl hg1457) rfl rfl (does_callk rfl callok126 rfl (impl_SameRules.calls (x0 := x0.fRule) (x1 := x1.fRule) (HM.rd hp0_0) (HM.rd hp1_0) (cond_t hg1457 h1456))) ?_
      rintro _ w1458 ⟨rfl, hn⟩
      replace HM : Mem w [] w1458 [box b1450 102 [.int .i64 x1.fValue, p1_0, .int .i64 x1.fRule.fNeed, .int .i64 x1.fRule.fAfter], box b1447 102 [.int .i64 x0.fValue, p0_0, .int .i64 x0.fRule.fNeed, .int .i64 x0.fRule.fAfter]] := HM.call hn
      refine ops_ex (v := .bool ((x0.fValue == x1.fValue) && t1455)) rfl (guard_none rfl) rfl rfl (ex_pand_t rfl rfl hg1457 rfl) ?_
      refine ops_ex rfl (guard_none rfl) rfl rfl (ex_assign rfl rfl) ?_
      refine ops_nil ?_
      replace HM := (HM.front 0 rfl rfl).drop
      replace HM := (HM.front 0 rfl rfl).drop
      exact at_meet [(4, .bool ((x0.fValue == x1.fValue) && t1455))] ⟨rfl, HM⟩ (Sub.cons rfl Sub.nil)
    · skip
      refine ops_off rfl (guard_off rfl rfl rfl hg1457) rfl rfl ?_
      refine ops_off rfl (guard_off rfl rfl rfl hg1457) rfl rfl ?_
      refine ops_off rfl (guard_off rfl rfl rfl hg1457) rfl rfl ?_
      refine ops_off rfl (guard_off rfl rfl rfl hg1457) rfl rfl ?_
      refine ops_off rfl (guard_off rfl rfl rfl hg1457) rfl rfl ?_
      have hg1459 : ((x0.fValue == x1.fValue) && t1455) = false := by simp only [hg1457, Bool.and_true, Bool.true_and, Bool.and_false, Bool.false_and, Bool.or_true, Bool.true_or, Bool.or_false, Bool.false_or, Bool.not_true, Bool.not_false, Bool.not_not]
      refine ops_ex (v := .bool ((x0.fValue == x1.fValue) && t1455)) rfl (guard_none rfl) rfl rfl (ex_pand_f rfl rfl hg1457) ?_
      refine ops_ex rfl (guard_none rfl) rfl rfl (ex_assign rfl rfl) ?_
      refine ops_nil ?_
      replace HM := (HM.front 0 rfl rfl).drop
      replace HM := (HM.front 0 rfl rfl).drop
      exact at_meet [(4, .bool ((x0.fValue == x1.fValue) && t1455))] ⟨rfl, HM⟩ (Sub.cons rfl Sub.nil)
  · rintro _ w1460 ⟨rfl, HM⟩
    refine at_then ?_
    refine run_ret ?_
    have hR := Option.some.inj H
    subst hR
    exact at_ret1 rfl rfl ⟨_, rfl, rfl, HM⟩

def impl_sameCoin.f (k : Nat) (x0 : Coin) (x1 : Coin) : Option Bool := ((bif ((x0.fRef.fTx == x1.fRef.fTx) && (x0.fRef.fAt == x1.fRef.fAt)) then impl_sameOuts.f k x0.fOut x1.fOut else some default).bind fun t1471 => some (((((x0.fRef.fTx == x1.fRef.fTx) && (x0.fRef.fAt == x1.fRef.fAt)) && t1471) && (x0.fHeight == x1.fHeight)) && (x0.fMined == x1.fMined)))
theorem impl_sameCoin.calls {k : Nat} {x0 : Coin} {x1 : Coin} {p0_0 : Value} {p1_0 : Value} {w : World} (hp0_0 : RdS kInt w p0_0 x0.fOut.fRule.fKeys) (hp1_0 : RdS kInt w p1_0 x1.fOut.fRule.fKeys) {r : Bool} (H : impl_sameCoin.f k x0 x1 = some r) :
    Calls Try.prog 66 ([.agg #[(.int .i64 x0.fRef.fTx), (.int .i64 x0.fRef.fAt), (.int .i64 x0.fOut.fValue), p0_0, (.int .i64 x0.fOut.fRule.fNeed), (.int .i64 x0.fOut.fRule.fAfter), (.int .i64 x0.fHeight), (.bool x0.fMined)], .agg #[(.int .i64 x1.fRef.fTx), (.int .i64 x1.fRef.fAt), (.int .i64 x1.fOut.fValue), p1_0, (.int .i64 x1.fOut.fRule.fNeed), (.int .i64 x1.fOut.fRule.fAfter), (.int .i64 x1.fHeight), (.bool x1.fMined)]] : List Value).toArray w (fun e w_ => ∃ v, e = .returned v ∧ v = (.bool r) ∧ Mem w [] w_ []) := by
  have HM := Mem.start w
  refine calls_run (N := 31) Try.func66 rfl rfl rfl rfl ?_
  unfold impl_sameCoin.f at H
  refine run_seq ?_
  refine run_region rfl ?_
  refine ops_does rfl (guard_none rfl) rfl rfl (does_box (cs := [.int .i64 x0.fRef.fTx, .int .i64 x0.fRef.fAt, .int .i64 x0.fOut.fValue, p0_0, .int .i64 x0.fOut.fRule.fNeed, .int .i64 x0.fOut.fRule.fAfter, .int .i64 x0.fHeight, .bool x0.fMined]) rfl rfl rfl HM) ?_
  rintro _ w1469 ⟨b1463, rfl, HM⟩
  refine ops_does rfl (guard_none rfl) rfl rfl (does_box (cs := [.int .i64 x1.fRef.fTx, .int .i64 x1.fRef.fAt, .int .i64 x1.fOut.fValue, p1_0, .int .i64 x1.fOut.fRule.fNeed, .int .i64 x1.fOut.fRule.fAfter, .int .i64 x1.fHeight, .bool x1.fMined]) rfl rfl rfl HM) ?_
  rintro _ w1470 ⟨b1466, rfl, HM⟩
  refine ops_ex rfl (guard_none rfl) rfl rfl (ex_assign rfl rfl) ?_
  refine ops_nil ?_
  refine at_then ?_
  refine run_seq ?_
  obtain ⟨t1471, h1472, H⟩ := bind_some H
  refine run_meet (fun ρ_ w_ => ρ_ = [(4, .bool (((((x0.fRef.fTx == x1.fRef.fTx) && (x0.fRef.fAt == x1.fRef.fAt)) && t1471) && (x0.fHeight == x1.fHeight)) && (x0.fMined == x1.fMined)))] ∧ Mem w [] w_ []) ?_ ?_
  · skip
    refine run_region rfl ?_
    refine ops_ex rfl (guard_none rfl) rfl rfl (ex_fieldAddr (off' := 0) rfl rfl Try.underlying104 rfl tsz99 rfl) ?_
    refine ops_ex rfl (guard_none rfl) rfl rfl (ex_loadN (cs := [(.int .i64 x0.fRef.fTx), (.int .i64 x0.fRef.fAt)]) rfl rfl Try.underlying99 rfl tsz99 rfl ((HM.box_at 1 rfl).sub 0 2 rfl)) ?_
    refine ops_ex rfl (guard_none rfl) rfl rfl (ex_fieldAddr (off' := 0) rfl rfl Try.underlying104 rfl tsz99 rfl) ?_
    refine ops_ex rfl (guard_none rfl) rfl rfl (ex_loadN (cs := [(.int .i64 x1.fRef.fTx), (.int .i64 x1.fRef.fAt)]) rfl rfl Try.underlying99 rfl tsz99 rfl ((HM.box_at 0 rfl).sub 0 2 rfl)) ?_
    refine ops_ex rfl (guard_none rfl) rfl rfl (ex_aeql rfl rfl rfl (by kernel_rfl) (eqs99 _ _ _ _ _)) ?_
    refine ops_ex rfl (guard_none rfl) rfl rfl (ex_move rfl rfl) ?_
    refine bool_cases ((x0.fRef.fTx == x1.fRef.fTx) && (x0.fRef.fAt == x1.fRef.fAt)) (fun hg1473 => ?_) (fun hg1473 => ?_)
    · skip
      refine ops_ex rfl (guard_on rfl rfl rfl hg1473) rfl rfl (ex_fieldAddr (off' := 2) rfl rfl Try.underlying104 rfl tsz102 rfl) ?_
      refine ops_ex rfl (guard_on rfl rfl rfl hg1473) rfl rfl (ex_loadN (cs := [(.int .i64 x0.fOut.fValue), p0_0, (.int .i64 x0.fOut.fRule.fNeed), (.int .i64 x0.fOut.fRule.fAfter)]) rfl rfl Try.underlying102 rfl tsz102 rfl ((HM.box_at 1 rfl).sub 2 4 rfl)) ?_
      refine ops_ex rfl (guard_on rfl rfl rfl hg1473) rfl rfl (ex_fieldAddr (off' := 2) rfl rfl Try.underlying104 rfl tsz102 rfl) ?_
      refine ops_ex rfl (guard_on rfl rfl rfl hg1473) rfl rfl (ex_loadN (cs := [(.int .i64 x1.fOut.fValue), p1_0, (.int .i64 x1.fOut.fRule.fNeed), (.int .i64 x1.fOut.fRule.fAfter)]) rfl rfl Try.underlying102 rfl tsz102 rfl ((HM.box_at 0 rfl).sub 2 4 rfl)) ?_
      refine ops_does rfl (guard_on rfl rfl rfl hg1473) rfl rfl (does_callk rfl callok75 rfl (impl_sameOuts.calls (x0 := x0.fOut) (x1 := x1.fOut) (HM.rd hp0_0) (HM.rd hp1_0) (cond_t hg1473 h1472))) ?_
      rintro _ w1474 ⟨rfl, hn⟩
      replace HM : Mem w [] w1474 [box b1466 104 [.int .i64 x1.fRef.fTx, .int .i64 x1.fRef.fAt, .int .i64 x1.fOut.fValue, p1_0, .int .i64 x1.fOut.fRule.fNeed, .int .i64 x1.fOut.fRule.fAfter, .int .i64 x1.fHeight, .bool x1.fMined], box b1463 104 [.int .i64 x0.fRef.fTx, .int .i64 x0.fRef.fAt, .int .i64 x0.fOut.fValue, p0_0, .int .i64 x0.fOut.fRule.fNeed, .int .i64 x0.fOut.fRule.fAfter, .int .i64 x0.fHeight, .bool x0.fMined]] := HM.call hn
      refine ops_ex (v := .bool (((x0.fRef.fTx == x1.fRef.fTx) && (x0.fRef.fAt == x1.fRef.fAt)) && t1471)) rfl (guard_none rfl) rfl rfl (ex_pand_t rfl rfl hg1473 rfl) ?_
      refine ops_ex rfl (guard_none rfl) rfl rfl (ex_move rfl rfl) ?_
      refine bool_cases (((x0.fRef.fTx == x1.fRef.fTx) && (x0.fRef.fAt == x1.fRef.fAt)) && t1471) (fun hg1475 => ?_) (fun hg1475 => ?_)
      · skip
        refine ops_ex rfl (guard_on rfl rfl rfl hg1475) rfl rfl (ex_fieldAddr (off' := 6) rfl rfl Try.underlying104 rfl tsz2 rfl) ?_
        refine ops_ex rfl (guard_on rfl rfl rfl hg1475) rfl rfl (ex_load1 rfl rfl Try.underlying2 rfl ((HM.box_at 1 rfl) 6 _ rfl)) ?_
        refine ops_ex rfl (guard_on rfl rfl rfl hg1475) rfl rfl (ex_fieldAddr (off' := 6) rfl rfl Try.underlying104 rfl tsz2 rfl) ?_
        refine ops_ex rfl (guard_on rfl rfl rfl hg1475) rfl rfl (ex_load1 rfl rfl Try.underlying2 rfl ((HM.box_at 0 rfl) 6 _ rfl)) ?_
        refine ops_ex rfl (guard_on rfl rfl rfl hg1475) rfl rfl (ex_eql rfl rfl rfl) ?_
        refine ops_ex (v := .bool ((((x0.fRef.fTx == x1.fRef.fTx) && (x0.fRef.fAt == x1.fRef.fAt)) && t1471) && (x0.fHeight == x1.fHeight))) rfl (guard_none rfl) rfl rfl (ex_pand_t rfl rfl hg1475 rfl) ?_
        refine ops_ex rfl (guard_none rfl) rfl rfl (ex_move rfl rfl) ?_
        refine bool_cases ((((x0.fRef.fTx == x1.fRef.fTx) && (x0.fRef.fAt == x1.fRef.fAt)) && t1471) && (x0.fHeight == x1.fHeight)) (fun hg1476 => ?_) (fun hg1476 => ?_)
        · skip
          refine ops_ex rfl (guard_on rfl rfl rfl hg1476) rfl rfl (ex_fieldAddr (off' := 7) rfl rfl Try.underlying104 rfl tsz4 rfl) ?_
          refine ops_ex rfl (guard_on rfl rfl rfl hg1476) rfl rfl (ex_load1 rfl rfl Try.underlying4 rfl ((HM.box_at 1 rfl) 7 _ rfl)) ?_
          refine ops_ex rfl (guard_on rfl rfl rfl hg1476) rfl rfl (ex_fieldAddr (off' := 7) rfl rfl Try.underlying104 rfl tsz4 rfl) ?_
          refine ops_ex rfl (guard_on rfl rfl rfl hg1476) rfl rfl (ex_load1 rfl rfl Try.underlying4 rfl ((HM.box_at 0 rfl) 7 _ rfl)) ?_
          refine ops_ex rfl (guard_on rfl rfl rfl hg1476) rfl rfl (ex_beql rfl rfl rfl Try.underlying4) ?_
          refine ops_ex (v := .bool (((((x0.fRef.fTx == x1.fRef.fTx) && (x0.fRef.fAt == x1.fRef.fAt)) && t1471) && (x0.fHeight == x1.fHeight)) && (x0.fMined == x1.fMined))) rfl (guard_none rfl) rfl rfl (ex_pand_t rfl rfl hg1476 rfl) ?_
          refine ops_ex rfl (guard_none rfl) rfl rfl (ex_assign rfl rfl) ?_
          refine ops_nil ?_
          replace HM := (HM.front 0 rfl rfl).drop
          replace HM := (HM.front 0 rfl rfl).drop
          exact at_meet [(4, .bool (((((x0.fRef.fTx == x1.fRef.fTx) && (x0.fRef.fAt == x1.fRef.fAt)) && t1471) && (x0.fHeight == x1.fHeight)) && (x0.fMined == x1.fMined)))] ⟨rfl, HM⟩ (Sub.cons rfl Sub.nil)
        · skip
          refine ops_off rfl (guard_off rfl rfl rfl hg1476) rfl rfl ?_
          refine ops_off rfl (guard_off rfl rfl rfl hg1476) rfl rfl ?_
          refine ops_off rfl (guard_off rfl rfl rfl hg1476) rfl rfl ?_
          refine ops_off rfl (guard_off rfl rfl rfl hg1476) rfl rfl ?_
          refine ops_off rfl (guard_off rfl rfl rfl hg1476) rfl rfl ?_
          have hg1477 : (((((x0.fRef.fTx == x1.fRef.fTx) && (x0.fRef.fAt == x1.fRef.fAt)) && t1471) && (x0.fHeight == x1.fHeight)) && (x0.fMined == x1.fMined)) = false := by simp only [hg1476, Bool.and_true, Bool.true_and, Bool.and_false, Bool.false_and, Bool.or_true, Bool.true_or, Bool.or_false, Bool.false_or, Bool.not_true, Bool.not_false, Bool.not_not]
          refine ops_ex (v := .bool (((((x0.fRef.fTx == x1.fRef.fTx) && (x0.fRef.fAt == x1.fRef.fAt)) && t1471) && (x0.fHeight == x1.fHeight)) && (x0.fMined == x1.fMined))) rfl (guard_none rfl) rfl rfl (ex_pand_f rfl rfl hg1476) ?_
          refine ops_ex rfl (guard_none rfl) rfl rfl (ex_assign rfl rfl) ?_
          refine ops_nil ?_
          replace HM := (HM.front 0 rfl rfl).drop
          replace HM := (HM.front 0 rfl rfl).drop
          exact at_meet [(4, .bool (((((x0.fRef.fTx == x1.fRef.fTx) && (x0.fRef.fAt == x1.fRef.fAt)) && t1471) && (x0.fHeight == x1.fHeight)) && (x0.fMined == x1.fMined)))] ⟨rfl, HM⟩ (Sub.cons rfl Sub.nil)
      · skip
        refine ops_off rfl (guard_off rfl rfl rfl hg1475) rfl rfl ?_
        refine ops_off rfl (guard_off rfl rfl rfl hg1475) rfl rfl ?_
        refine ops_off rfl (guard_off rfl rfl rfl hg1475) rfl rfl ?_
        refine ops_off rfl (guard_off rfl rfl rfl hg1475) rfl rfl ?_
        refine ops_off rfl (guard_off rfl rfl rfl hg1475) rfl rfl ?_
        have hg1478 : ((((x0.fRef.fTx == x1.fRef.fTx) && (x0.fRef.fAt == x1.fRef.fAt)) && t1471) && (x0.fHeight == x1.fHeight)) = false := by simp only [hg1475, Bool.and_true, Bool.true_and, Bool.and_false, Bool.false_and, Bool.or_true, Bool.true_or, Bool.or_false, Bool.false_or, Bool.not_true, Bool.not_false, Bool.not_not]
        refine ops_ex (v := .bool ((((x0.fRef.fTx == x1.fRef.fTx) && (x0.fRef.fAt == x1.fRef.fAt)) && t1471) && (x0.fHeight == x1.fHeight))) rfl (guard_none rfl) rfl rfl (ex_pand_f rfl rfl hg1475) ?_
        refine ops_ex rfl (guard_none rfl) rfl rfl (ex_move rfl rfl) ?_
        refine ops_off rfl (guard_off rfl rfl rfl hg1478) rfl rfl ?_
        refine ops_off rfl (guard_off rfl rfl rfl hg1478) rfl rfl ?_
        refine ops_off rfl (guard_off rfl rfl rfl hg1478) rfl rfl ?_
        refine ops_off rfl (guard_off rfl rfl rfl hg1478) rfl rfl ?_
        refine ops_off rfl (guard_off rfl rfl rfl hg1478) rfl rfl ?_
        have hg1479 : (((((x0.fRef.fTx == x1.fRef.fTx) && (x0.fRef.fAt == x1.fRef.fAt)) && t1471) && (x0.fHeight == x1.fHeight)) && (x0.fMined == x1.fMined)) = false := by simp only [hg1478, Bool.and_true, Bool.true_and, Bool.and_false, Bool.false_and, Bool.or_true, Bool.true_or, Bool.or_false, Bool.false_or, Bool.not_true, Bool.not_false, Bool.not_not]
        refine ops_ex (v := .bool (((((x0.fRef.fTx == x1.fRef.fTx) && (x0.fRef.fAt == x1.fRef.fAt)) && t1471) && (x0.fHeight == x1.fHeight)) && (x0.fMined == x1.fMined))) rfl (guard_none rfl) rfl rfl (ex_pand_f rfl rfl hg1478) ?_
        refine ops_ex rfl (guard_none rfl) rfl rfl (ex_assign rfl rfl) ?_
        refine ops_nil ?_
        replace HM := (HM.front 0 rfl rfl).drop
        replace HM := (HM.front 0 rfl rfl).drop
        exact at_meet [(4, .bool (((((x0.fRef.fTx == x1.fRef.fTx) && (x0.fRef.fAt == x1.fRef.fAt)) && t1471) && (x0.fHeight == x1.fHeight)) && (x0.fMined == x1.fMined)))] ⟨rfl, HM⟩ (Sub.cons rfl Sub.nil)
    · skip
      refine ops_off rfl (guard_off rfl rfl rfl hg1473) rfl rfl ?_
      refine ops_off rfl (guard_off rfl rfl rfl hg1473) rfl rfl ?_
      refine ops_off rfl (guard_off rfl rfl rfl hg1473) rfl rfl ?_
      refine ops_off rfl (guard_off rfl rfl rfl hg1473) rfl rfl ?_
      refine ops_off rfl (guard_off rfl rfl rfl hg1473) rfl rfl ?_
      have hg1480 : (((x0.fRef.fTx == x1.fRef.fTx) && (x0.fRef.fAt == x1.fRef.fAt)) && t1471) = false := by simp only [hg1473, Bool.and_true, Bool.true_and, Bool.and_false, Bool.false_and, Bool.or_true, Bool.true_or, Bool.or_false, Bool.false_or, Bool.not_true, Bool.not_false, Bool.not_not]
      refine ops_ex (v := .bool (((x0.fRef.fTx == x1.fRef.fTx) && (x0.fRef.fAt == x1.fRef.fAt)) && t1471)) rfl (guard_none rfl) rfl rfl (ex_pand_f rfl rfl hg1473) ?_
      refine ops_ex rfl (guard_none rfl) rfl rfl (ex_move rfl rfl) ?_
      refine ops_off rfl (guard_off rfl rfl rfl hg1480) rfl rfl ?_
      refine ops_off rfl (guard_off rfl rfl rfl hg1480) rfl rfl ?_
      refine ops_off rfl (guard_off rfl rfl rfl hg1480) rfl rfl ?_
      refine ops_off rfl (guard_off rfl rfl rfl hg1480) rfl rfl ?_
      refine ops_off rfl (guard_off rfl rfl rfl hg1480) rfl rfl ?_
      have hg1481 : ((((x0.fRef.fTx == x1.fRef.fTx) && (x0.fRef.fAt == x1.fRef.fAt)) && t1471) && (x0.fHeight == x1.fHeight)) = false := by simp only [hg1480, Bool.and_true, Bool.true_and, Bool.and_false, Bool.false_and, Bool.or_true, Bool.true_or, Bool.or_false, Bool.false_or, Bool.not_true, Bool.not_false, Bool.not_not]
      refine ops_ex (v := .bool ((((x0.fRef.fTx == x1.fRef.fTx) && (x0.fRef.fAt == x1.fRef.fAt)) && t1471) && (x0.fHeight == x1.fHeight))) rfl (guard_none rfl) rfl rfl (ex_pand_f rfl rfl hg1480) ?_
      refine ops_ex rfl (guard_none rfl) rfl rfl (ex_move rfl rfl) ?_
      refine ops_off rfl (guard_off rfl rfl rfl hg1481) rfl rfl ?_
      refine ops_off rfl (guard_off rfl rfl rfl hg1481) rfl rfl ?_
      refine ops_off rfl (guard_off rfl rfl rfl hg1481) rfl rfl ?_
      refine ops_off rfl (guard_off rfl rfl rfl hg1481) rfl rfl ?_
      refine ops_off rfl (guard_off rfl rfl rfl hg1481) rfl rfl ?_
      have hg1482 : (((((x0.fRef.fTx == x1.fRef.fTx) && (x0.fRef.fAt == x1.fRef.fAt)) && t1471) && (x0.fHeight == x1.fHeight)) && (x0.fMined == x1.fMined)) = false := by simp only [hg1481, Bool.and_true, Bool.true_and, Bool.and_false, Bool.false_and, Bool.or_true, Bool.true_or, Bool.or_false, Bool.false_or, Bool.not_true, Bool.not_false, Bool.not_not]
      refine ops_ex (v := .bool (((((x0.fRef.fTx == x1.fRef.fTx) && (x0.fRef.fAt == x1.fRef.fAt)) && t1471) && (x0.fHeight == x1.fHeight)) && (x0.fMined == x1.fMined))) rfl (guard_none rfl) rfl rfl (ex_pand_f rfl rfl hg1481) ?_
      refine ops_ex rfl (guard_none rfl) rfl rfl (ex_assign rfl rfl) ?_
      refine ops_nil ?_
      replace HM := (HM.front 0 rfl rfl).drop
      replace HM := (HM.front 0 rfl rfl).drop
      exact at_meet [(4, .bool (((((x0.fRef.fTx == x1.fRef.fTx) && (x0.fRef.fAt == x1.fRef.fAt)) && t1471) && (x0.fHeight == x1.fHeight)) && (x0.fMined == x1.fMined)))] ⟨rfl, HM⟩ (Sub.cons rfl Sub.nil)
  · rintro _ w1483 ⟨rfl, HM⟩
    refine at_then ?_
    refine run_ret ?_
    have hR := Option.some.inj H
    subst hR
    exact at_ret1 rfl rfl ⟨_, rfl, rfl, HM⟩
end Go.Proofs.Ytoiacoiccpiciaa.Zk
