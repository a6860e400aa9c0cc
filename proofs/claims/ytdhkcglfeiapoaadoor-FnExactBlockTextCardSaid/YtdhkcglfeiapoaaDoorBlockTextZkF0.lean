/- What functions of the program compute, each as a plain function, and that they do. Conditions: as each theorem states them. -/
import Derived.Test.YtdhkcglfeiapoaaDoorBlockTextZkTy
namespace Go.Proofs.YtdhkcglfeiapoaaDoor.Zk
open Go Go.RowKit Go.IntWalk Go.Proofs
set_option linter.unusedVariables false
set_option linter.unusedSimpArgs false
set_option maxRecDepth 100000
set_option maxHeartbeats 4000000
def laws_szInt64S.f (k : Nat) (x0 : List Int) (x1 : Int) : Option Int := (bif (decide ((wrap64 (x1 - (x0.length : Int))) < 0)) then some (-1) else some (wrap64 (x1 - (x0.length : Int))))
theorem laws_szInt64S.calls {k : Nat} {x0 : List Int} {x1 : Int} {p0 : Value} {w : World} (hp0 : RdS kInt w p0 x0) {r : Int} (H : laws_szInt64S.f k x0 x1 = some r) :
    Calls Tryd.prog 16 ([p0, .int .i64 x1] : List Value).toArray w (fun e w_ => ∃ v, e = .returned v ∧ v = (.int .i64 r) ∧ Mem w [] w_ []) := by
  have HM := Mem.start w
  refine calls_run (N := 12) Tryd.func16 rfl rfl rfl rfl ?_
  unfold laws_szInt64S.f at H
  refine run_seq ?_
  refine run_region rfl ?_
  refine ops_ex rfl (guard_none rfl) rfl rfl (ex_assign rfl rfl) ?_
  refine ops_nil ?_
  refine at_then ?_
  refine run_seq ?_
  refine run_region rfl ?_
  refine ops_ex rfl (guard_none rfl) rfl rfl (ex_move rfl rfl) ?_
  refine ops_ex rfl (guard_none rfl) rfl rfl (ex_move rfl rfl) ?_
  refine ops_ex rfl (guard_none rfl) rfl rfl (ex_len (d := kInt) (xs := x0) rfl rfl Tryd.underlying22 hp0) ?_
  refine ops_ex rfl (guard_none rfl) rfl rfl (ex_sub rfl rfl rfl) ?_
  refine ops_ex rfl (guard_none rfl) rfl rfl (ex_assign rfl rfl) ?_
  refine ops_nil ?_
  refine at_then ?_
  refine run_seq ?_
  refine run_seq ?_
  refine run_region rfl ?_
  refine ops_ex rfl (guard_none rfl) rfl rfl (ex_move rfl rfl) ?_
  refine ops_ex rfl (guard_none rfl) rfl rfl (ex_lss rfl rfl rfl) ?_
  refine ops_nil ?_
  refine at_then ?_
  refine run_cond (b := (decide ((wrap64 (x1 - (x0.length : Int))) < 0))) rfl (fun hb8 => ?_) (fun hb8 => ?_)
  · replace H := cond_t hb8 H
    refine run_seq ?_
    refine run_region rfl ?_
    refine ops_ex rfl (guard_none rfl) rfl rfl (ex_assign rfl rfl) ?_
    refine ops_nil ?_
    refine at_then ?_
    refine run_ret ?_
    refine at_then_ret ?_
    have hR := Option.some.inj H
    subst hR
    exact at_ret1 rfl rfl ⟨_, rfl, rfl, HM⟩
  · replace H := cond_f hb8 H
    refine run_skip ?_
    refine at_then ?_
    refine run_seq ?_
    refine run_region rfl ?_
    refine ops_ex rfl (guard_none rfl) rfl rfl (ex_move rfl rfl) ?_
    refine ops_ex rfl (guard_none rfl) rfl rfl (ex_assign rfl rfl) ?_
    refine ops_nil ?_
    refine at_then ?_
    refine run_ret ?_
    have hR := Option.some.inj H
    subst hR
    exact at_ret1 rfl rfl ⟨_, rfl, rfl, HM⟩

def laws_szBlock.f (k : Nat) (x0 : Block) (x1 : Int) : Option Int := ((laws_szInt64S.f k x0.fTxs x1).bind fun t16 => (bif (decide (t16 < 0)) then some (-1) else some t16))
theorem laws_szBlock.calls {k : Nat} {x0 : Block} {x1 : Int} {p0_0 : Value} {w : World} (hp0_0 : RdS kInt w p0_0 x0.fTxs) {r : Int} (H : laws_szBlock.f k x0 x1 = some r) :
    Calls Tryd.prog 11 ([.agg #[(.int .i64 x0.fPrev), (.int .i64 x0.fHeight), (.int .i64 x0.fMiner), p0_0], .int .i64 x1] : List Value).toArray w (fun e w_ => ∃ v, e = .returned v ∧ v = (.int .i64 r) ∧ Mem w [] w_ []) := by
  have HM := Mem.start w
  refine calls_run (N := 12) Tryd.func11 rfl rfl rfl rfl ?_
  unfold laws_szBlock.f at H
  refine run_seq ?_
  refine run_region rfl ?_
  refine ops_does rfl (guard_none rfl) rfl rfl (does_box (cs := [.int .i64 x0.fPrev, .int .i64 x0.fHeight, .int .i64 x0.fMiner, p0_0]) rfl rfl rfl HM) ?_
  rintro _ w15 ⟨b12, rfl, HM⟩
  refine ops_ex rfl (guard_none rfl) rfl rfl (ex_assign rfl rfl) ?_
  refine ops_nil ?_
  refine at_then ?_
  refine run_seq ?_
  obtain ⟨t16, h17, H⟩ := bind_some H
  refine run_region rfl ?_
  refine ops_ex rfl (guard_none rfl) rfl rfl (ex_fieldAddr (off' := 3) rfl rfl Tryd.underlying35 rfl tsz22 rfl) ?_
  refine ops_ex rfl (guard_none rfl) rfl rfl (ex_load1 rfl rfl Tryd.underlying22 rfl ((HM.box_at 0 rfl) 3 _ rfl)) ?_
  refine ops_ex rfl (guard_none rfl) rfl rfl (ex_move rfl rfl) ?_
  refine ops_does rfl (guard_none rfl) rfl rfl (does_callk rfl callok16 rfl (laws_szInt64S.calls (x0 := x0.fTxs) (x1 := x1) (HM.rd hp0_0) h17)) ?_
  rintro _ w18 ⟨rfl, hn⟩
  replace HM : Mem w [] w18 [box b12 35 [.int .i64 x0.fPrev, .int .i64 x0.fHeight, .int .i64 x0.fMiner, p0_0]] := HM.call hn
  refine ops_ex rfl (guard_none rfl) rfl rfl (ex_assign rfl rfl) ?_
  refine ops_nil ?_
  refine at_then ?_
  refine run_seq ?_
  refine run_seq ?_
  refine run_region rfl ?_
  refine ops_ex rfl (guard_none rfl) rfl rfl (ex_move rfl rfl) ?_
  refine ops_ex rfl (guard_none rfl) rfl rfl (ex_lss rfl rfl rfl) ?_
  refine ops_nil ?_
  refine at_then ?_
  refine run_cond (b := (decide (t16 < 0))) rfl (fun hb19 => ?_) (fun hb19 => ?_)
  · replace H := cond_t hb19 H
    refine run_seq ?_
    refine run_region rfl ?_
    refine ops_ex rfl (guard_none rfl) rfl rfl (ex_assign rfl rfl) ?_
    refine ops_nil ?_
    refine at_then ?_
    refine run_ret ?_
    refine at_then_ret ?_
    replace HM := (HM.front 0 rfl rfl).drop
    have hR := Option.some.inj H
    subst hR
    exact at_ret1 rfl rfl ⟨_, rfl, rfl, HM⟩
  · replace H := cond_f hb19 H
    refine run_skip ?_
    refine at_then ?_
    refine run_seq ?_
    refine run_region rfl ?_
    refine ops_ex rfl (guard_none rfl) rfl rfl (ex_move rfl rfl) ?_
    refine ops_ex rfl (guard_none rfl) rfl rfl (ex_assign rfl rfl) ?_
    refine ops_nil ?_
    refine at_then ?_
    refine run_ret ?_
    replace HM := (HM.front 0 rfl rfl).drop
    have hR := Option.some.inj H
    subst hR
    exact at_ret1 rfl rfl ⟨_, rfl, rfl, HM⟩

def laws_toInt64S.l0 (x0 : List Int) : Nat → (List Int) → Int → Option ((List Int))
  | 0, _, _ => none
  | k + 1, a91, a93 => (bif (decide (a93 < (x0.length : Int))) then (chk (idxOk a93 x0.length) (chk (idxOk a93 a91.length) (laws_toInt64S.l0 x0 k (a91.set (a93).toNat (gt x0 a93)) (wrap64 (a93 + 1))))) else some a91)
theorem laws_toInt64S.l0_z (x0 : List Int) (a91 : List Int) (a93 : Int) : laws_toInt64S.l0 x0 0 a91 a93 = none := rfl
theorem laws_toInt64S.l0_s (x0 : List Int) (k : Nat) (a91 : List Int) (a93 : Int) : laws_toInt64S.l0 x0 (k + 1) a91 a93 = (bif (decide (a93 < (x0.length : Int))) then (chk (idxOk a93 x0.length) (chk (idxOk a93 a91.length) (laws_toInt64S.l0 x0 k (a91.set (a93).toNat (gt x0 a93)) (wrap64 (a93 + 1))))) else some a91) := rfl
def laws_toInt64S.f (k : Nat) (x0 : List Int) : Option ((List Int)) := (chk (decide (0 ≤ (x0.length : Int))) (chk (leB (((x0.length : Int)).toNat * 8) 281474976710656) ((laws_toInt64S.l0 x0 k (List.replicate ((x0.length : Int)).toNat 0) 0).bind (fun a82 => some a82))))
theorem laws_toInt64S.calls {k : Nat} {x0 : List Int} {p0 : Value} {w : World} (hp0 : RdS kInt w p0 x0) {r : (List Int)} (H : laws_toInt64S.f k x0 = some r) :
    Calls Tryd.prog 19 ([p0] : List Value).toArray w (fun e w_ => ∃ v, e = .returned v ∧ ∃ u0 : Value, v = u0 ∧ Mem w [] w_ [own kInt 2 u0 r]) := by
  have HM := Mem.start w
  refine calls_run (N := 22) Tryd.func19 rfl rfl rfl rfl ?_
  unfold laws_toInt64S.f at H
  refine run_seq ?_
  refine run_region rfl ?_
  refine ops_ex rfl (guard_none rfl) rfl rfl (ex_assign rfl rfl) ?_
  refine ops_nil ?_
  refine at_then ?_
  refine run_seq ?_
  obtain ⟨e62, H⟩ := chk_some H
  obtain ⟨e63, H⟩ := chk_some H
  refine run_region rfl ?_
  refine ops_ex rfl (guard_none rfl) rfl rfl (ex_move rfl rfl) ?_
  refine ops_ex rfl (guard_none rfl) rfl rfl (ex_len (d := kInt) (xs := x0) rfl rfl Tryd.underlying22 hp0) ?_
  refine ops_does rfl (guard_none rfl) rfl rfl (does_make (x := 0) kInt rfl rfl rfl Tryd.underlying22 tsz2 tby2 tz2 rfl rfl (fun _ => ⟨rfl, rfl⟩) (of_decide_eq_true e62) rfl (leB_le e63) rfl HM) ?_
  rintro v59 w64 HM
  refine ops_ex rfl (guard_none rfl) rfl rfl (ex_assign rfl rfl) ?_
  refine ops_nil ?_
  refine at_then ?_
  obtain ⟨o84, ho85, H⟩ := bind_some H
  refine run_mid (fun ρ_ w_ => ∃ v81 : Value, ∃ a82 : List Int, a82 = o84 ∧ ρ_ = [(3, v81)] ∧ Mem w [] w_ [own kInt 2 v81 a82]) ?_ ?_
  · clear H
    refine run_seq ?_
    refine run_region rfl ?_
    refine ops_ex rfl (guard_none rfl) rfl rfl (ex_assign rfl rfl) ?_
    refine ops_nil ?_
    refine at_then ?_
    refine run_block ?_
    refine run_loop (fun k_ ρ_ w_ => ∃ v90 : Value, ∃ a91 : List Int, ∃ a93 : Int, laws_toInt64S.l0 x0 k_ a91 a93 = some o84 ∧ ρ_ = [(0, p0), (3, v90), (4, .int .i64 a93)] ∧ Mem w [] w_ [own kInt 2 v90 a91]) k (ρ1 := [(0, p0), (3, v59), (4, .int .i64 0)]) ⟨_, _, _, ho85, rfl, HM⟩ (Sub.cons rfl (Sub.cons rfl (Sub.cons rfl Sub.nil))) ?_
    clear HM ho85
    rintro k98 _ w99 ⟨v90, a91, a93, ho85, rfl, HM⟩
    obtain _ | k98 := k98
    · exact nomatch ((laws_toInt64S.l0_z x0 a91 a93).symm.trans ho85)
    replace ho85 := (laws_toInt64S.l0_s x0 k98 a91 a93).symm.trans ho85
    refine run_seq ?_
    refine run_seq ?_
    refine run_region rfl ?_
    refine ops_ex rfl (guard_none rfl) rfl rfl (ex_move rfl rfl) ?_
    refine ops_ex rfl (guard_none rfl) rfl rfl (ex_move rfl rfl) ?_
    refine ops_ex rfl (guard_none rfl) rfl rfl (ex_len (d := kInt) (xs := x0) rfl rfl Tryd.underlying22 hp0) ?_
    refine ops_ex rfl (guard_none rfl) rfl rfl (ex_lss rfl rfl rfl) ?_
    refine ops_nil ?_
    refine at_then ?_
    refine run_cond (b := (decide (a93 < (x0.length : Int)))) rfl (fun hb100 => ?_) (fun hb100 => ?_)
    · replace ho85 := cond_t hb100 ho85
      refine run_skip ?_
      refine at_then ?_
      refine run_seq ?_
      refine run_block ?_
      obtain ⟨e101, ho85⟩ := chk_some ho85
      obtain ⟨e103, ho85⟩ := chk_some ho85
      refine run_region rfl ?_
      refine ops_ex rfl (guard_none rfl) rfl rfl (ex_move rfl rfl) ?_
      refine ops_ex rfl (guard_none rfl) rfl rfl (ex_move rfl rfl) ?_
      refine ops_ex rfl (guard_none rfl) rfl rfl (ex_move rfl rfl) ?_
      refine ops_ex rfl (guard_none rfl) rfl rfl (ex_move rfl rfl) ?_
      have hc102 : CellsAt _ (sb p0) (so p0 + (a93).toNat * 1) [(.int .i64 (gt x0 a93))] := rd_plain hp0 e101
      refine ops_ex rfl (guard_none rfl) rfl rfl (ex_indexAddr (d := kInt) rfl rfl rfl Tryd.underlying22 tsz2 hp0 (idx_lo e101) (idx_hi e101)) ?_
      refine ops_ex rfl (guard_none rfl) rfl rfl (ex_load1 rfl rfl Tryd.underlying2 rfl ((HM.at_ hc102) 0 _ rfl)) ?_
      refine ops_ex rfl (guard_none rfl) rfl rfl (ex_indexAddr (d := kInt) rfl rfl rfl Tryd.underlying22 tsz2 (HM.own_rd 0 rfl) (idx_lo e103) (idx_hi e103)) ?_
      refine ops_doesS rfl (guard_none rfl) rfl (does_setElem (vs := [(.int .i64 (gt x0 a93))]) (y := (gt x0 a93)) kInt rfl rfl rfl rfl rfl tsz2 rfl rfl (idx_nat e103) (fun _ _ h => ⟨rfl, h⟩) (HM.emp.front 1 rfl rfl)) ?_
      rintro w104 HM
      refine ops_nil ?_
      refine at_block ?_
      refine at_then ?_
      refine run_region rfl ?_
      refine ops_ex rfl (guard_none rfl) rfl rfl (ex_move rfl rfl) ?_
      refine ops_ex rfl (guard_none rfl) rfl rfl (ex_add rfl rfl rfl) ?_
      refine ops_ex rfl (guard_none rfl) rfl rfl (ex_assign rfl rfl) ?_
      refine ops_nil ?_
      exact at_again k98 (ρ1 := [(0, p0), (3, v90), (4, .int .i64 (wrap64 (a93 + 1)))]) (Nat.lt_succ_self _) ⟨_, _, _, ho85, rfl, HM⟩ (Sub.cons rfl (Sub.cons rfl (Sub.cons rfl Sub.nil)))
    · replace ho85 := cond_f hb100 ho85
      refine run_exit ?_
      refine at_then_exit ?_
      refine at_then_exit ?_
      refine at_block_exit ?_
      exact at_mid (ρ' := [(3, v90)]) ⟨_, _, (Option.some.inj ho85), rfl, HM⟩ (Sub.cons rfl Sub.nil)
  · rintro _ w105 ⟨v81, a82, rfl, rfl, HM⟩
    refine run_seq ?_
    refine run_region rfl ?_
    refine ops_ex rfl (guard_none rfl) rfl rfl (ex_move rfl rfl) ?_
    refine ops_ex rfl (guard_none rfl) rfl rfl (ex_assign rfl rfl) ?_
    refine ops_nil ?_
    refine at_then ?_
    refine run_ret ?_
    have hR := Option.some.inj H
    subst hR
    exact at_ret1 rfl rfl ⟨_, rfl, _, rfl, HM⟩

def laws_toBlock.f (k : Nat) (x0 : Block) : Option Block := ((laws_toInt64S.f k x0.fTxs).bind fun t125 => some (⟨x0.fPrev, x0.fHeight, x0.fMiner, t125⟩ : Block))
theorem laws_toBlock.calls {k : Nat} {x0 : Block} {p0_0 : Value} {w : World} (hp0_0 : RdS kInt w p0_0 x0.fTxs) {r : Block} (H : laws_toBlock.f k x0 = some r) :
    Calls Tryd.prog 13 ([.agg #[(.int .i64 x0.fPrev), (.int .i64 x0.fHeight), (.int .i64 x0.fMiner), p0_0]] : List Value).toArray w (fun e w_ => ∃ v, e = .returned v ∧ ∃ u0 : Value, v = (.agg #[.int .i64 r.fPrev, .int .i64 r.fHeight, .int .i64 r.fMiner, u0]) ∧ Mem w [] w_ [own kInt 2 u0 r.fTxs]) := by
  have HM := Mem.start w
  refine calls_run (N := 18) Tryd.func13 rfl rfl rfl rfl ?_
  unfold laws_toBlock.f at H
  refine run_seq ?_
  refine run_region rfl ?_
  refine ops_does rfl (guard_none rfl) rfl rfl (does_box (cs := [.int .i64 x0.fPrev, .int .i64 x0.fHeight, .int .i64 x0.fMiner, p0_0]) rfl rfl rfl HM) ?_
  rintro _ w116 ⟨b110, rfl, HM⟩
  refine ops_does rfl (guard_none rfl) rfl rfl (does_alloc (cs := [.int .i64 0, .int .i64 0, .int .i64 0, .slice none 0 0]) rfl tz38 rfl HM) ?_
  rintro _ w117 ⟨b113, rfl, HM⟩
  refine ops_nil ?_
  refine at_then ?_
  refine run_seq ?_
  refine run_region rfl ?_
  refine ops_does rfl (guard_none rfl) rfl rfl (does_alloc (cs := [.int .i64 0, .int .i64 0, .int .i64 0, .slice none 0 0]) rfl tz38 rfl HM) ?_
  rintro _ w121 ⟨b118, rfl, HM⟩
  refine ops_nil ?_
  refine at_then ?_
  refine run_seq ?_
  refine run_region rfl ?_
  refine ops_ex rfl (guard_none rfl) rfl rfl (ex_fieldAddr (off' := 0) rfl rfl Tryd.underlying35 rfl tsz2 rfl) ?_
  refine ops_ex rfl (guard_none rfl) rfl rfl (ex_load1 rfl rfl Tryd.underlying2 rfl ((HM.box_at 2 rfl) 0 _ rfl)) ?_
  refine ops_ex rfl (guard_none rfl) rfl rfl (ex_fieldAddr (off' := 0) rfl rfl Tryd.underlying38 rfl tsz2 rfl) ?_
  refine ops_doesS rfl (guard_none rfl) rfl (does_store (vs := [.int .i64 x0.fPrev]) (cs' := [.int .i64 x0.fPrev, .int .i64 0, .int .i64 0, .slice none 0 0]) rfl rfl rfl rfl tsz2 (Ones.int Ones.nil) rfl rfl HM) ?_
  rintro w122 HM
  refine ops_nil ?_
  refine at_then ?_
  refine run_seq ?_
  refine run_region rfl ?_
  refine ops_ex rfl (guard_none rfl) rfl rfl (ex_fieldAddr (off' := 1) rfl rfl Tryd.underlying35 rfl tsz2 rfl) ?_
  refine ops_ex rfl (guard_none rfl) rfl rfl (ex_load1 rfl rfl Tryd.underlying2 rfl ((HM.box_at 2 rfl) 1 _ rfl)) ?_
  refine ops_ex rfl (guard_none rfl) rfl rfl (ex_fieldAddr (off' := 1) rfl rfl Tryd.underlying38 rfl tsz2 rfl) ?_
  refine ops_doesS rfl (guard_none rfl) rfl (does_store (vs := [.int .i64 x0.fHeight]) (cs' := [.int .i64 x0.fPrev, .int .i64 x0.fHeight, .int .i64 0, .slice none 0 0]) rfl rfl rfl rfl tsz2 (Ones.int Ones.nil) rfl rfl HM) ?_
  rintro w123 HM
  refine ops_nil ?_
  refine at_then ?_
  refine run_seq ?_
  refine run_region rfl ?_
  refine ops_ex rfl (guard_none rfl) rfl rfl (ex_fieldAddr (off' := 2) rfl rfl Tryd.underlying35 rfl tsz2 rfl) ?_
  refine ops_ex rfl (guard_none rfl) rfl rfl (ex_load1 rfl rfl Tryd.underlying2 rfl ((HM.box_at 2 rfl) 2 _ rfl)) ?_
  refine ops_ex rfl (guard_none rfl) rfl rfl (ex_fieldAddr (off' := 2) rfl rfl Tryd.underlying38 rfl tsz2 rfl) ?_
  refine ops_doesS rfl (guard_none rfl) rfl (does_store (vs := [.int .i64 x0.fMiner]) (cs' := [.int .i64 x0.fPrev, .int .i64 x0.fHeight, .int .i64 x0.fMiner, .slice none 0 0]) rfl rfl rfl rfl tsz2 (Ones.int Ones.nil) rfl rfl HM) ?_
  rintro w124 HM
  refine ops_nil ?_
  refine at_then ?_
  refine run_seq ?_
  obtain ⟨t125, h126, H⟩ := bind_some H
  refine run_region rfl ?_
  refine ops_ex rfl (guard_none rfl) rfl rfl (ex_fieldAddr (off' := 3) rfl rfl Tryd.underlying35 rfl tsz22 rfl) ?_
  refine ops_ex rfl (guard_none rfl) rfl rfl (ex_load1 rfl rfl Tryd.underlying22 rfl ((HM.box_at 2 rfl) 3 _ rfl)) ?_
  refine ops_does rfl (guard_none rfl) rfl rfl (does_callk rfl callok19 rfl (laws_toInt64S.calls (x0 := x0.fTxs) (HM.rd hp0_0) h126)) ?_
  rintro u127 w129 ⟨_, rfl, hn⟩
  replace HM : Mem w [] w129 [own kInt 2 u127 t125, box b118 38 [.int .i64 x0.fPrev, .int .i64 x0.fHeight, .int .i64 x0.fMiner, .slice none 0 0], box b113 38 [.int .i64 0, .int .i64 0, .int .i64 0, .slice none 0 0], box b110 35 [.int .i64 x0.fPrev, .int .i64 x0.fHeight, .int .i64 x0.fMiner, p0_0]] := HM.call hn
  refine ops_ex rfl (guard_none rfl) rfl rfl (ex_fieldAddr (off' := 3) rfl rfl Tryd.underlying38 rfl tsz22 rfl) ?_
  replace HM := HM.front 1 rfl rfl
  refine ops_doesS rfl (guard_none rfl) rfl (does_store (vs := [u127]) (cs' := [.int .i64 x0.fPrev, .int .i64 x0.fHeight, .int .i64 x0.fMiner, u127]) rfl rfl rfl (rd_cells (HM.own_rd 1 rfl)) tsz22 (Ones.rd (HM.own_rd 1 rfl) Ones.nil) rfl rfl HM) ?_
  rintro w130 HM
  refine ops_nil ?_
  refine at_then ?_
  refine run_seq ?_
  refine run_region rfl ?_
  refine ops_ex rfl (guard_none rfl) rfl rfl (ex_loadN (cs := [(.int .i64 x0.fPrev), (.int .i64 x0.fHeight), (.int .i64 x0.fMiner), u127]) rfl rfl Tryd.underlying38 rfl tsz38 rfl ((HM.box_at 0 rfl).sub 0 4 rfl)) ?_
  replace HM := HM.front 2 rfl rfl
  refine ops_doesS rfl (guard_none rfl) rfl (does_store (vs := [.int .i64 x0.fPrev, .int .i64 x0.fHeight, .int .i64 x0.fMiner, u127]) (cs' := [.int .i64 x0.fPrev, .int .i64 x0.fHeight, .int .i64 x0.fMiner, u127]) rfl rfl rfl rfl tsz38 (Ones.int (Ones.int (Ones.int (Ones.rd (HM.own_rd 2 rfl) Ones.nil)))) rfl rfl HM) ?_
  rintro w131 HM
  refine ops_nil ?_
  refine at_then ?_
  refine run_ret ?_
  replace HM := (HM.front 1 rfl rfl).drop
  replace HM := (HM.front 2 rfl rfl).drop
  have hcb0 := HM.box_at 0 rfl
  replace HM := (HM.front 0 rfl rfl).drop
  have hR := Option.some.inj H
  subst hR
  exact at_retN rfl rfl Tryd.underlying38 rfl tsz38 rfl hcb0 ⟨_, rfl, _, rfl, HM⟩

def spec_l1In.f (k : Nat) (x0 : Int) (x1 : Int) (x2 : Int) : Option Bool := some ((decide (x1 ≤ x0)) && (decide (x0 ≤ x2)))
theorem spec_l1In.calls {k : Nat} {x0 : Int} {x1 : Int} {x2 : Int}  {w : World}  {r : Bool} (H : spec_l1In.f k x0 x1 x2 = some r) :
    Calls Tryd.prog 27 ([.int .i64 x0, .int .i64 x1, .int .i64 x2] : List Value).toArray w (fun e w_ => ∃ v, e = .returned v ∧ v = (.bool r) ∧ Mem w [] w_ []) := by
  have HM := Mem.start w
  refine calls_run (N := 15) Tryd.func27 rfl rfl rfl rfl ?_
  unfold spec_l1In.f at H
  refine run_seq ?_
  refine run_region rfl ?_
  refine ops_ex rfl (guard_none rfl) rfl rfl (ex_assign rfl rfl) ?_
  refine ops_nil ?_
  refine at_then ?_
  refine run_seq ?_
  refine run_meet (fun ρ_ w_ => ρ_ = [(6, .bool ((decide (x1 ≤ x0)) && (decide (x0 ≤ x2))))] ∧ Mem w [] w_ []) ?_ ?_
  · skip
    refine run_region rfl ?_
    refine ops_ex rfl (guard_none rfl) rfl rfl (ex_move rfl rfl) ?_
    refine ops_ex rfl (guard_none rfl) rfl rfl (ex_move rfl rfl) ?_
    refine ops_ex rfl (guard_none rfl) rfl rfl (ex_geq rfl rfl rfl) ?_
    refine ops_ex rfl (guard_none rfl) rfl rfl (ex_move rfl rfl) ?_
    refine bool_cases (decide (x1 ≤ x0)) (fun hg142 => ?_) (fun hg142 => ?_)
    · skip
      refine ops_ex rfl (guard_on rfl rfl rfl hg142) rfl rfl (ex_move rfl rfl) ?_
      refine ops_ex rfl (guard_on rfl rfl rfl hg142) rfl rfl (ex_move rfl rfl) ?_
      refine ops_ex rfl (guard_on rfl rfl rfl hg142) rfl rfl (ex_leq rfl rfl rfl) ?_
      refine ops_ex (v := .bool ((decide (x1 ≤ x0)) && (decide (x0 ≤ x2)))) rfl (guard_none rfl) rfl rfl (ex_pand_t rfl rfl hg142 rfl) ?_
      refine ops_ex rfl (guard_none rfl) rfl rfl (ex_assign rfl rfl) ?_
      refine ops_nil ?_
      exact at_meet [(6, .bool ((decide (x1 ≤ x0)) && (decide (x0 ≤ x2))))] ⟨rfl, HM⟩ (Sub.cons rfl Sub.nil)
    · skip
      refine ops_off rfl (guard_off rfl rfl rfl hg142) rfl rfl ?_
      refine ops_off rfl (guard_off rfl rfl rfl hg142) rfl rfl ?_
      refine ops_off rfl (guard_off rfl rfl rfl hg142) rfl rfl ?_
      have hg143 : ((decide (x1 ≤ x0)) && (decide (x0 ≤ x2))) = false := by simp only [hg142, Bool.and_true, Bool.true_and, Bool.and_false, Bool.false_and, Bool.or_true, Bool.true_or, Bool.or_false, Bool.false_or, Bool.not_true, Bool.not_false, Bool.not_not]
      refine ops_ex (v := .bool ((decide (x1 ≤ x0)) && (decide (x0 ≤ x2)))) rfl (guard_none rfl) rfl rfl (ex_pand_f rfl rfl hg142) ?_
      refine ops_ex rfl (guard_none rfl) rfl rfl (ex_assign rfl rfl) ?_
      refine ops_nil ?_
      exact at_meet [(6, .bool ((decide (x1 ≤ x0)) && (decide (x0 ≤ x2))))] ⟨rfl, HM⟩ (Sub.cons rfl Sub.nil)
  · rintro _ w144 ⟨rfl, HM⟩
    refine at_then ?_
    refine run_ret ?_
    have hR := Option.some.inj H
    subst hR
    exact at_ret1 rfl rfl ⟨_, rfl, rfl, HM⟩

def spec_l1Key.f (k : Nat) (x0 : Int) : Option Bool := ((spec_l1In.f k x0 1 999).bind fun t151 => some t151)
theorem spec_l1Key.calls {k : Nat} {x0 : Int}  {w : World}  {r : Bool} (H : spec_l1Key.f k x0 = some r) :
    Calls Tryd.prog 28 ([.int .i64 x0] : List Value).toArray w (fun e w_ => ∃ v, e = .returned v ∧ v = (.bool r) ∧ Mem w [] w_ []) := by
  have HM := Mem.start w
  refine calls_run (N := 5) Tryd.func28 rfl rfl rfl rfl ?_
  unfold spec_l1Key.f at H
  refine run_seq ?_
  refine run_region rfl ?_
  refine ops_ex rfl (guard_none rfl) rfl rfl (ex_assign rfl rfl) ?_
  refine ops_nil ?_
  refine at_then ?_
  refine run_seq ?_
  obtain ⟨t151, h152, H⟩ := bind_some H
  refine run_region rfl ?_
  refine ops_ex rfl (guard_none rfl) rfl rfl (ex_move rfl rfl) ?_
  refine ops_does rfl (guard_none rfl) rfl rfl (does_callk rfl callok27 rfl (spec_l1In.calls (x0 := x0) (x1 := 1) (x2 := 999) h152)) ?_
  rintro _ w153 ⟨rfl, hn⟩
  replace HM : Mem w [] w153 [] := HM.call hn
  refine ops_ex rfl (guard_none rfl) rfl rfl (ex_assign rfl rfl) ?_
  refine ops_nil ?_
  refine at_then ?_
  refine run_ret ?_
  have hR := Option.some.inj H
  subst hR
  exact at_ret1 rfl rfl ⟨_, rfl, rfl, HM⟩

def spec_l4Among.l0 (x0 : List Int) (x1 : Int) : Nat → Int → Option (Bool ⊕ Unit)
  | 0, _ => none
  | k + 1, a219 => (bif (decide (a219 < (x0.length : Int))) then (chk (idxOk a219 x0.length) (bif ((gt x0 a219) == x1) then some (.inl true) else spec_l4Among.l0 x0 x1 k (wrap64 (a219 + 1)))) else some (.inr ()))
theorem spec_l4Among.l0_z (x0 : List Int) (x1 : Int) (a219 : Int) : spec_l4Among.l0 x0 x1 0 a219 = none := rfl
theorem spec_l4Among.l0_s (x0 : List Int) (x1 : Int) (k : Nat) (a219 : Int) : spec_l4Among.l0 x0 x1 (k + 1) a219 = (bif (decide (a219 < (x0.length : Int))) then (chk (idxOk a219 x0.length) (bif ((gt x0 a219) == x1) then some (.inl true) else spec_l4Among.l0 x0 x1 k (wrap64 (a219 + 1)))) else some (.inr ())) := rfl
def spec_l4Among.f (k : Nat) (x0 : List Int) (x1 : Int) : Option Bool := ((spec_l4Among.l0 x0 x1 k 0).bind fun o213 => thn o213 (fun r => some r) (fun _ => some false))
theorem spec_l4Among.calls {k : Nat} {x0 : List Int} {x1 : Int} {p0 : Value} {w : World} (hp0 : RdS kInt w p0 x0) {r : Bool} (H : spec_l4Among.f k x0 x1 = some r) :
    Calls Tryd.prog 37 ([p0, .int .i64 x1] : List Value).toArray w (fun e w_ => ∃ v, e = .returned v ∧ v = (.bool r) ∧ Mem w [] w_ []) := by
  have HM := Mem.start w
  refine calls_run (N := 18) Tryd.func37 rfl rfl rfl rfl ?_
  unfold spec_l4Among.f at H
  refine run_seq ?_
  refine run_region rfl ?_
  refine ops_ex rfl (guard_none rfl) rfl rfl (ex_assign rfl rfl) ?_
  refine ops_nil ?_
  refine at_then ?_
  obtain ⟨o213, ho214, H⟩ := bind_some H
  refine run_mid (fun ρ_ w_ => Sum.inr () = o213 ∧ ρ_ = [] ∧ Mem w [] w_ []) ?_ ?_
  · skip
    refine run_seq ?_
    refine run_region rfl ?_
    refine ops_ex rfl (guard_none rfl) rfl rfl (ex_assign rfl rfl) ?_
    refine ops_nil ?_
    refine at_then ?_
    refine run_block ?_
    refine run_loop (fun k_ ρ_ w_ => ∃ a219 : Int, spec_l4Among.l0 x0 x1 k_ a219 = some o213 ∧ ρ_ = [(0, p0), (1, .int .i64 x1), (5, .int .i64 a219)] ∧ Mem w [] w_ []) k (ρ1 := [(0, p0), (1, .int .i64 x1), (5, .int .i64 0)]) ⟨_, ho214, rfl, HM⟩ (Sub.cons rfl (Sub.cons rfl (Sub.cons rfl Sub.nil))) ?_
    clear HM ho214
    rintro k224 _ w225 ⟨a219, ho214, rfl, HM⟩
    obtain _ | k224 := k224
    · exact nomatch ((spec_l4Among.l0_z x0 x1 a219).symm.trans ho214)
    replace ho214 := (spec_l4Among.l0_s x0 x1 k224 a219).symm.trans ho214
    refine run_seq ?_
    refine run_seq ?_
    refine run_region rfl ?_
    refine ops_ex rfl (guard_none rfl) rfl rfl (ex_move rfl rfl) ?_
    refine ops_ex rfl (guard_none rfl) rfl rfl (ex_move rfl rfl) ?_
    refine ops_ex rfl (guard_none rfl) rfl rfl (ex_len (d := kInt) (xs := x0) rfl rfl Tryd.underlying22 hp0) ?_
    refine ops_ex rfl (guard_none rfl) rfl rfl (ex_lss rfl rfl rfl) ?_
    refine ops_nil ?_
    refine at_then ?_
    refine run_cond (b := (decide (a219 < (x0.length : Int)))) rfl (fun hb226 => ?_) (fun hb226 => ?_)
    · replace ho214 := cond_t hb226 ho214
      refine run_skip ?_
      refine at_then ?_
      refine run_seq ?_
      refine run_block ?_
      refine run_seq ?_
      obtain ⟨e227, ho214⟩ := chk_some ho214
      refine run_region rfl ?_
      refine ops_ex rfl (guard_none rfl) rfl rfl (ex_move rfl rfl) ?_
      refine ops_ex rfl (guard_none rfl) rfl rfl (ex_move rfl rfl) ?_
      have hc228 : CellsAt _ (sb p0) (so p0 + (a219).toNat * 1) [(.int .i64 (gt x0 a219))] := rd_plain hp0 e227
      refine ops_ex rfl (guard_none rfl) rfl rfl (ex_indexAddr (d := kInt) rfl rfl rfl Tryd.underlying22 tsz2 hp0 (idx_lo e227) (idx_hi e227)) ?_
      refine ops_ex rfl (guard_none rfl) rfl rfl (ex_load1 rfl rfl Tryd.underlying2 rfl ((HM.at_ hc228) 0 _ rfl)) ?_
      refine ops_ex rfl (guard_none rfl) rfl rfl (ex_move rfl rfl) ?_
      refine ops_ex rfl (guard_none rfl) rfl rfl (ex_eql rfl rfl rfl) ?_
      refine ops_nil ?_
      refine at_then ?_
      refine run_cond (b := ((gt x0 a219) == x1)) rfl (fun hb229 => ?_) (fun hb229 => ?_)
      · replace ho214 := cond_t hb229 ho214
        refine run_seq ?_
        refine run_region rfl ?_
        refine ops_ex rfl (guard_none rfl) rfl rfl (ex_assign rfl rfl) ?_
        refine ops_nil ?_
        refine at_then ?_
        refine run_ret ?_
        refine at_block_ret ?_
        refine at_then_ret ?_
        refine at_then_ret ?_
        refine at_block_ret ?_
        refine at_then_ret ?_
        have hR := Option.some.inj ho214
        subst hR
        have hT := thn_inl H
        have hR := Option.some.inj hT
        subst hR
        exact at_ret1 rfl rfl ⟨_, rfl, rfl, HM⟩
      · replace ho214 := cond_f hb229 ho214
        refine run_skip ?_
        refine at_block ?_
        refine at_then ?_
        refine run_region rfl ?_
        refine ops_ex rfl (guard_none rfl) rfl rfl (ex_move rfl rfl) ?_
        refine ops_ex rfl (guard_none rfl) rfl rfl (ex_add rfl rfl rfl) ?_
        refine ops_ex rfl (guard_none rfl) rfl rfl (ex_assign rfl rfl) ?_
        refine ops_nil ?_
        exact at_again k224 (ρ1 := [(0, p0), (1, .int .i64 x1), (5, .int .i64 (wrap64 (a219 + 1)))]) (Nat.lt_succ_self _) ⟨_, ho214, rfl, HM⟩ (Sub.cons rfl (Sub.cons rfl (Sub.cons rfl Sub.nil)))
    · replace ho214 := cond_f hb226 ho214
      refine run_exit ?_
      refine at_then_exit ?_
      refine at_then_exit ?_
      refine at_block_exit ?_
      exact at_mid (ρ' := []) ⟨(Option.some.inj ho214), rfl, HM⟩ Sub.nil
  · rintro _ w230 ⟨rfl, rfl, HM⟩
    replace H := (thn_inr H)
    refine run_seq ?_
    refine run_region rfl ?_
    refine ops_ex rfl (guard_none rfl) rfl rfl (ex_assign rfl rfl) ?_
    refine ops_nil ?_
    refine at_then ?_
    refine run_ret ?_
    have hR := Option.some.inj H
    subst hR
    exact at_ret1 rfl rfl ⟨_, rfl, rfl, HM⟩

def spec_l7Fault.l0 (x0 : Block) : Nat → Int → Option (Int ⊕ Unit)
  | 0, _ => none
  | k + 1, a387 => (bif (decide (a387 < (x0.fTxs.length : Int))) then (chk (idxOk a387 x0.fTxs.length) ((spec_l1In.f k (gt x0.fTxs a387) 1 60).bind fun t418 => (bif !t418 then some (.inl 3) else (chk (cutOk a387 x0.fTxs.length) (chk (idxOk a387 x0.fTxs.length) ((spec_l4Among.f k (x0.fTxs.take (a387).toNat) (gt x0.fTxs a387)).bind fun t428 => (bif t428 then some (.inl 7) else spec_l7Fault.l0 x0 k (wrap64 (a387 + 1))))))))) else some (.inr ()))
theorem spec_l7Fault.l0_z (x0 : Block) (a387 : Int) : spec_l7Fault.l0 x0 0 a387 = none := rfl
theorem spec_l7Fault.l0_s (x0 : Block) (k : Nat) (a387 : Int) : spec_l7Fault.l0 x0 (k + 1) a387 = (bif (decide (a387 < (x0.fTxs.length : Int))) then (chk (idxOk a387 x0.fTxs.length) ((spec_l1In.f k (gt x0.fTxs a387) 1 60).bind fun t418 => (bif !t418 then some (.inl 3) else (chk (cutOk a387 x0.fTxs.length) (chk (idxOk a387 x0.fTxs.length) ((spec_l4Among.f k (x0.fTxs.take (a387).toNat) (gt x0.fTxs a387)).bind fun t428 => (bif t428 then some (.inl 7) else spec_l7Fault.l0 x0 k (wrap64 (a387 + 1))))))))) else some (.inr ())) := rfl
def spec_l7Fault.f (k : Nat) (x0 : Block) : Option Int := ((spec_l1In.f k x0.fPrev 0 60).bind fun t284 => ((bif (!(!t284)) then spec_l1In.f k x0.fHeight 1 40 else some default).bind fun t286 => ((bif (!((!t284) || (!t286))) then spec_l1Key.f k x0.fMiner else some default).bind fun t288 => (bif (((!t284) || (!t286)) || (!t288)) then some 3 else (bif ((x0.fPrev == 0) != (x0.fHeight == 1)) then some 1 else (bif (decide (6 < (x0.fTxs.length : Int))) then some 2 else ((spec_l7Fault.l0 x0 k 0).bind fun o365 => thn o365 (fun r => some r) (fun _ => some 0))))))))
theorem spec_l7Fault.calls {k : Nat} {x0 : Block} {b0 f0 : Nat} {p0_0 : Value} {w : World} (hc0 : CellsAt w b0 f0 [.int .i64 x0.fPrev, .int .i64 x0.fHeight, .int .i64 x0.fMiner, p0_0]) (hp0_0 : RdS kInt w p0_0 x0.fTxs) {r : Int} (H : spec_l7Fault.f k x0 = some r) :
    Calls Tryd.prog 23 ([.pointer (some ⟨b0, f0, none⟩)] : List Value).toArray w (fun e w_ => ∃ v, e = .returned v ∧ v = (.int .i64 r) ∧ Mem w [] w_ []) := by
  have HM := Mem.start w
  refine calls_run (N := 75) Tryd.func23 rfl rfl rfl rfl ?_
  unfold spec_l7Fault.f at H
  refine run_seq ?_
  refine run_region rfl ?_
  refine ops_ex rfl (guard_none rfl) rfl rfl (ex_assign rfl rfl) ?_
  refine ops_nil ?_
  refine at_then ?_
  refine run_seq ?_
  refine run_seq ?_
  obtain ⟨t284, h285, H⟩ := bind_some H
  obtain ⟨t286, h287, H⟩ := bind_some H
  obtain ⟨t288, h289, H⟩ := bind_some H
  refine run_meet (fun ρ_ w_ => ρ_ = [(0, .pointer (some ⟨b0, f0, none⟩)), (25, .bool (((!t284) || (!t286)) || (!t288)))] ∧ Mem w [] w_ []) ?_ ?_
  · skip
    refine run_region rfl ?_
    refine ops_ex rfl (guard_none rfl) rfl rfl (ex_move rfl rfl) ?_
    refine ops_ex rfl (guard_none rfl) rfl rfl (ex_nilCheck rfl rfl) ?_
    refine ops_ex rfl (guard_none rfl) rfl rfl (ex_fieldAddr (off' := f0) rfl rfl Tryd.underlying38 rfl tsz2 rfl) ?_
    refine ops_ex rfl (guard_none rfl) rfl rfl (ex_load1 rfl rfl Tryd.underlying2 rfl ((HM.at_ hc0) 0 _ rfl)) ?_
    refine ops_does rfl (guard_none rfl) rfl rfl (does_callk rfl callok27 rfl (spec_l1In.calls (x0 := x0.fPrev) (x1 := 0) (x2 := 60) h285)) ?_
    rintro _ w290 ⟨rfl, hn⟩
    replace HM : Mem w [] w290 [] := HM.call hn
    refine ops_ex rfl (guard_none rfl) rfl rfl (ex_not rfl rfl) ?_
    refine ops_ex rfl (guard_none rfl) rfl rfl (ex_move rfl rfl) ?_
    refine bool_cases (!t284) (fun hg291 => ?_) (fun hg291 => ?_)
    · skip
      refine ops_off rfl (guard_off rfl rfl rfl hg291) rfl rfl ?_
      refine ops_off rfl (guard_off rfl rfl rfl hg291) rfl rfl ?_
      refine ops_off rfl (guard_off rfl rfl rfl hg291) rfl rfl ?_
      refine ops_off rfl (guard_off rfl rfl rfl hg291) rfl rfl ?_
      refine ops_off rfl (guard_off rfl rfl rfl hg291) rfl rfl ?_
      refine ops_off rfl (guard_off rfl rfl rfl hg291) rfl rfl ?_
      have hg292 : ((!t284) || (!t286)) = true := by simp only [hg291, Bool.and_true, Bool.true_and, Bool.and_false, Bool.false_and, Bool.or_true, Bool.true_or, Bool.or_false, Bool.false_or, Bool.not_true, Bool.not_false, Bool.not_not]
      refine ops_ex (v := .bool ((!t284) || (!t286))) rfl (guard_none rfl) rfl rfl (ex_por_t rfl rfl hg291) ?_
      refine ops_ex rfl (guard_none rfl) rfl rfl (ex_move rfl rfl) ?_
      refine ops_off rfl (guard_off rfl rfl rfl hg292) rfl rfl ?_
      refine ops_off rfl (guard_off rfl rfl rfl hg292) rfl rfl ?_
      refine ops_off rfl (guard_off rfl rfl rfl hg292) rfl rfl ?_
      refine ops_off rfl (guard_off rfl rfl rfl hg292) rfl rfl ?_
      refine ops_off rfl (guard_off rfl rfl rfl hg292) rfl rfl ?_
      refine ops_off rfl (guard_off rfl rfl rfl hg292) rfl rfl ?_
      have hg293 : (((!t284) || (!t286)) || (!t288)) = true := by simp only [hg292, Bool.and_true, Bool.true_and, Bool.and_false, Bool.false_and, Bool.or_true, Bool.true_or, Bool.or_false, Bool.false_or, Bool.not_true, Bool.not_false, Bool.not_not]
      refine ops_ex (v := .bool (((!t284) || (!t286)) || (!t288))) rfl (guard_none rfl) rfl rfl (ex_por_t rfl rfl hg292) ?_
      refine ops_nil ?_
      exact at_meet [(0, .pointer (some ⟨b0, f0, none⟩)), (25, .bool (((!t284) || (!t286)) || (!t288)))] ⟨rfl, HM⟩ (Sub.cons rfl (Sub.cons rfl Sub.nil))
    · skip
      refine ops_ex rfl (guard_on rfl rfl rfl hg291) rfl rfl (ex_move rfl rfl) ?_
      refine ops_ex rfl (guard_on rfl rfl rfl hg291) rfl rfl (ex_nilCheck rfl rfl) ?_
      refine ops_ex rfl (guard_on rfl rfl rfl hg291) rfl rfl (ex_fieldAddr (off' := f0 + 1) rfl rfl Tryd.underlying38 rfl tsz2 rfl) ?_
      refine ops_ex rfl (guard_on rfl rfl rfl hg291) rfl rfl (ex_load1 rfl rfl Tryd.underlying2 rfl ((HM.at_ hc0) 1 _ rfl)) ?_
      refine ops_does rfl (guard_on rfl rfl rfl hg291) rfl rfl (does_callk rfl callok27 rfl (spec_l1In.calls (x0 := x0.fHeight) (x1 := 1) (x2 := 40) (cond_t (not_mk hg291) h287))) ?_
      rintro _ w294 ⟨rfl, hn⟩
      replace HM : Mem w [] w294 [] := HM.call hn
      refine ops_ex rfl (guard_on rfl rfl rfl hg291) rfl rfl (ex_not rfl rfl) ?_
      refine ops_ex (v := .bool ((!t284) || (!t286))) rfl (guard_none rfl) rfl rfl (ex_por_f rfl rfl hg291 rfl) ?_
      refine ops_ex rfl (guard_none rfl) rfl rfl (ex_move rfl rfl) ?_
      refine bool_cases ((!t284) || (!t286)) (fun hg295 => ?_) (fun hg295 => ?_)
      · skip
        refine ops_off rfl (guard_off rfl rfl rfl hg295) rfl rfl ?_
        refine ops_off rfl (guard_off rfl rfl rfl hg295) rfl rfl ?_
        refine ops_off rfl (guard_off rfl rfl rfl hg295) rfl rfl ?_
        refine ops_off rfl (guard_off rfl rfl rfl hg295) rfl rfl ?_
        refine ops_off rfl (guard_off rfl rfl rfl hg295) rfl rfl ?_
        refine ops_off rfl (guard_off rfl rfl rfl hg295) rfl rfl ?_
        have hg296 : (((!t284) || (!t286)) || (!t288)) = true := by simp only [hg295, Bool.and_true, Bool.true_and, Bool.and_false, Bool.false_and, Bool.or_true, Bool.true_or, Bool.or_false, Bool.false_or, Bool.not_true, Bool.not_false, Bool.not_not]
        refine ops_ex (v := .bool (((!t284) || (!t286)) || (!t288))) rfl (guard_none rfl) rfl rfl (ex_por_t rfl rfl hg295) ?_
        refine ops_nil ?_
        exact at_meet [(0, .pointer (some ⟨b0, f0, none⟩)), (25, .bool (((!t284) || (!t286)) || (!t288)))] ⟨rfl, HM⟩ (Sub.cons rfl (Sub.cons rfl Sub.nil))
      · skip
        refine ops_ex rfl (guard_on rfl rfl rfl hg295) rfl rfl (ex_move rfl rfl) ?_
        refine ops_ex rfl (guard_on rfl rfl rfl hg295) rfl rfl (ex_nilCheck rfl rfl) ?_
        refine ops_ex rfl (guard_on rfl rfl rfl hg295) rfl rfl (ex_fieldAddr (off' := f0 + 2) rfl rfl Tryd.underlying38 rfl tsz2 rfl) ?_
        refine ops_ex rfl (guard_on rfl rfl rfl hg295) rfl rfl (ex_load1 rfl rfl Tryd.underlying2 rfl ((HM.at_ hc0) 2 _ rfl)) ?_
        refine ops_does rfl (guard_on rfl rfl rfl hg295) rfl rfl (does_callk rfl callok28 rfl (spec_l1Key.calls (x0 := x0.fMiner) (cond_t (not_mk hg295) h289))) ?_
        rintro _ w297 ⟨rfl, hn⟩
        replace HM : Mem w [] w297 [] := HM.call hn
        refine ops_ex rfl (guard_on rfl rfl rfl hg295) rfl rfl (ex_not rfl rfl) ?_
        refine ops_ex (v := .bool (((!t284) || (!t286)) || (!t288))) rfl (guard_none rfl) rfl rfl (ex_por_f rfl rfl hg295 rfl) ?_
        refine ops_nil ?_
        exact at_meet [(0, .pointer (some ⟨b0, f0, none⟩)), (25, .bool (((!t284) || (!t286)) || (!t288)))] ⟨rfl, HM⟩ (Sub.cons rfl (Sub.cons rfl Sub.nil))
  · rintro _ w298 ⟨rfl, HM⟩
    refine at_then ?_
    refine run_cond (b := (((!t284) || (!t286)) || (!t288))) rfl (fun hb299 => ?_) (fun hb299 => ?_)
    · replace H := cond_t hb299 H
      refine run_seq ?_
      refine run_region rfl ?_
      refine ops_ex rfl (guard_none rfl) rfl rfl (ex_assign rfl rfl) ?_
      refine ops_nil ?_
      refine at_then ?_
      refine run_ret ?_
      refine at_then_ret ?_
      have hR := Option.some.inj H
      subst hR
      exact at_ret1 rfl rfl ⟨_, rfl, rfl, HM⟩
    · replace H := cond_f hb299 H
      refine run_skip ?_
      refine at_then ?_
      refine run_seq ?_
      refine run_seq ?_
      refine run_drawf (fun w_ => Mem w [] w_ []) [(0, true), (1, true), (2, true), (3, true), (4, true), (5, true), (6, true), (7, true), (8, true), (9, true), (10, true)] mixed rfl rfl (by kernel_rfl) ?_
      replace HM := HM.grow (fr_drew _)
      have hS := Mem.suf (M := []) HM
      refine drwp_take rfl (guard_none rfl) rfl rfl (fun w_ hS_ => (ex_move rfl rfl)) hS ?_
      refine drwp_take rfl (guard_none rfl) rfl rfl (fun w_ hS_ => (ex_nilCheck rfl rfl)) hS ?_
      refine drwp_take rfl (guard_none rfl) rfl rfl (fun w_ hS_ => (ex_fieldAddr (off' := f0) rfl rfl Tryd.underlying38 rfl tsz2 rfl)) hS ?_
      refine drwp_take rfl (guard_none rfl) rfl rfl (fun w_ hS_ => (ex_load1 rfl rfl Tryd.underlying2 rfl ((hS_.at_ hc0) 0 _ rfl))) hS ?_
      refine drwp_take rfl (guard_none rfl) rfl rfl (fun w_ hS_ => (ex_eql rfl rfl rfl)) hS ?_
      refine drwp_take rfl (guard_none rfl) rfl rfl (fun w_ hS_ => (ex_move rfl rfl)) hS ?_
      refine drwp_take rfl (guard_none rfl) rfl rfl (fun w_ hS_ => (ex_nilCheck rfl rfl)) hS ?_
      refine drwp_take rfl (guard_none rfl) rfl rfl (fun w_ hS_ => (ex_fieldAddr (off' := f0 + 1) rfl rfl Tryd.underlying38 rfl tsz2 rfl)) hS ?_
      refine drwp_take rfl (guard_none rfl) rfl rfl (fun w_ hS_ => (ex_load1 rfl rfl Tryd.underlying2 rfl ((hS_.at_ hc0) 1 _ rfl))) hS ?_
      refine drwp_take rfl (guard_none rfl) rfl rfl (fun w_ hS_ => (ex_eql rfl rfl rfl)) hS ?_
      refine drwp_take rfl (guard_none rfl) rfl rfl (fun w_ hS_ => (ex_bneq rfl rfl rfl Tryd.underlying4)) hS ?_
      refine drwp_done ?_
      refine at_then ?_
      refine run_cond (b := ((x0.fPrev == 0) != (x0.fHeight == 1))) rfl (fun hb301 => ?_) (fun hb301 => ?_)
      · replace H := cond_t hb301 H
        refine run_seq ?_
        refine run_region rfl ?_
        refine ops_ex rfl (guard_none rfl) rfl rfl (ex_assign rfl rfl) ?_
        refine ops_nil ?_
        refine at_then ?_
        refine run_ret ?_
        refine at_then_ret ?_
        have hR := Option.some.inj H
        subst hR
        exact at_ret1 rfl rfl ⟨_, rfl, rfl, HM⟩
      · replace H := cond_f hb301 H
        refine run_skip ?_
        refine at_then ?_
        refine run_seq ?_
        refine run_seq ?_
        refine run_region rfl ?_
        refine ops_ex rfl (guard_none rfl) rfl rfl (ex_move rfl rfl) ?_
        refine ops_ex rfl (guard_none rfl) rfl rfl (ex_nilCheck rfl rfl) ?_
        refine ops_ex rfl (guard_none rfl) rfl rfl (ex_fieldAddr (off' := f0 + 3) rfl rfl Tryd.underlying38 rfl tsz22 rfl) ?_
        refine ops_ex rfl (guard_none rfl) rfl rfl (ex_load1 rfl rfl Tryd.underlying22 rfl ((HM.at_ hc0) 3 _ rfl)) ?_
        refine ops_ex rfl (guard_none rfl) rfl rfl (ex_len (d := kInt) (xs := x0.fTxs) rfl rfl Tryd.underlying22 hp0_0) ?_
        refine ops_ex rfl (guard_none rfl) rfl rfl (ex_gtr rfl rfl rfl) ?_
        refine ops_nil ?_
        refine at_then ?_
        refine run_cond (b := (decide (6 < (x0.fTxs.length : Int)))) rfl (fun hb303 => ?_) (fun hb303 => ?_)
        · replace H := cond_t hb303 H
          refine run_seq ?_
          refine run_region rfl ?_
          refine ops_ex rfl (guard_none rfl) rfl rfl (ex_assign rfl rfl) ?_
          refine ops_nil ?_
          refine at_then ?_
          refine run_ret ?_
          refine at_then_ret ?_
          have hR := Option.some.inj H
          subst hR
          exact at_ret1 rfl rfl ⟨_, rfl, rfl, HM⟩
        · replace H := cond_f hb303 H
          refine run_skip ?_
          refine at_then ?_
          obtain ⟨o365, ho366, H⟩ := bind_some H
          refine run_mid (fun ρ_ w_ => Sum.inr () = o365 ∧ ρ_ = [] ∧ Mem w [] w_ []) ?_ ?_
          · skip
            refine run_seq ?_
            refine run_region rfl ?_
            refine ops_ex rfl (guard_none rfl) rfl rfl (ex_assign rfl rfl) ?_
            refine ops_nil ?_
            refine at_then ?_
            refine run_block ?_
            refine run_loop (fun k_ ρ_ w_ => ∃ a387 : Int, spec_l7Fault.l0 x0 k_ a387 = some o365 ∧ ρ_ = [(0, .pointer (some ⟨b0, f0, none⟩)), (3, .int .i64 a387)] ∧ Mem w [] w_ []) k (ρ1 := [(0, .pointer (some ⟨b0, f0, none⟩)), (3, .int .i64 0)]) ⟨_, ho366, rfl, HM⟩ (Sub.cons rfl (Sub.cons rfl Sub.nil)) ?_
            clear HM ho366
            rintro k408 _ w409 ⟨a387, ho366, rfl, HM⟩
            obtain _ | k408 := k408
            · exact nomatch ((spec_l7Fault.l0_z x0 a387).symm.trans ho366)
            replace ho366 := (spec_l7Fault.l0_s x0 k408 a387).symm.trans ho366
            refine run_seq ?_
            refine run_seq ?_
            refine run_region rfl ?_
            refine ops_ex rfl (guard_none rfl) rfl rfl (ex_move rfl rfl) ?_
            refine ops_ex rfl (guard_none rfl) rfl rfl (ex_move rfl rfl) ?_
            refine ops_ex rfl (guard_none rfl) rfl rfl (ex_nilCheck rfl rfl) ?_
            refine ops_ex rfl (guard_none rfl) rfl rfl (ex_fieldAddr (off' := f0 + 3) rfl rfl Tryd.underlying38 rfl tsz22 rfl) ?_
            refine ops_ex rfl (guard_none rfl) rfl rfl (ex_load1 rfl rfl Tryd.underlying22 rfl ((HM.at_ hc0) 3 _ rfl)) ?_
            refine ops_ex rfl (guard_none rfl) rfl rfl (ex_len (d := kInt) (xs := x0.fTxs) rfl rfl Tryd.underlying22 hp0_0) ?_
            refine ops_ex rfl (guard_none rfl) rfl rfl (ex_lss rfl rfl rfl) ?_
            refine ops_nil ?_
            refine at_then ?_
            refine run_cond (b := (decide (a387 < (x0.fTxs.length : Int)))) rfl (fun hb410 => ?_) (fun hb410 => ?_)
            · replace ho366 := cond_t hb410 ho366
              refine run_skip ?_
              refine at_then ?_
              refine run_seq ?_
              refine run_block ?_
              refine run_seq ?_
              refine run_seq ?_
              obtain ⟨e416, ho366⟩ := chk_some ho366
              obtain ⟨t418, h419, ho366⟩ := bind_some ho366
              refine run_region rfl ?_
              refine ops_ex rfl (guard_none rfl) rfl rfl (ex_move rfl rfl) ?_
              refine ops_ex rfl (guard_none rfl) rfl rfl (ex_nilCheck rfl rfl) ?_
              refine ops_ex rfl (guard_none rfl) rfl rfl (ex_fieldAddr (off' := f0 + 3) rfl rfl Tryd.underlying38 rfl tsz22 rfl) ?_
              refine ops_ex rfl (guard_none rfl) rfl rfl (ex_load1 rfl rfl Tryd.underlying22 rfl ((HM.at_ hc0) 3 _ rfl)) ?_
              refine ops_ex rfl (guard_none rfl) rfl rfl (ex_move rfl rfl) ?_
              have hc417 : CellsAt _ (sb p0_0) (so p0_0 + (a387).toNat * 1) [(.int .i64 (gt x0.fTxs a387))] := rd_plain hp0_0 e416
              refine ops_ex rfl (guard_none rfl) rfl rfl (ex_indexAddr (d := kInt) rfl rfl rfl Tryd.underlying22 tsz2 hp0_0 (idx_lo e416) (idx_hi e416)) ?_
              refine ops_ex rfl (guard_none rfl) rfl rfl (ex_load1 rfl rfl Tryd.underlying2 rfl ((HM.at_ hc417) 0 _ rfl)) ?_
              refine ops_does rfl (guard_none rfl) rfl rfl (does_callk rfl callok27 rfl (spec_l1In.calls (x0 := (gt x0.fTxs a387)) (x1 := 1) (x2 := 60) h419)) ?_
              rintro _ w420 ⟨rfl, hn⟩
              replace HM : Mem w [] w420 [] := HM.call hn
              refine ops_ex rfl (guard_none rfl) rfl rfl (ex_not rfl rfl) ?_
              refine ops_nil ?_
              refine at_then ?_
              refine run_cond (b := !t418) rfl (fun hb421 => ?_) (fun hb421 => ?_)
              · replace ho366 := cond_t hb421 ho366
                refine run_seq ?_
                refine run_region rfl ?_
                refine ops_ex rfl (guard_none rfl) rfl rfl (ex_assign rfl rfl) ?_
                refine ops_nil ?_
                refine at_then ?_
                refine run_ret ?_
                refine at_then_ret ?_
                refine at_block_ret ?_
                refine at_then_ret ?_
                refine at_then_ret ?_
                refine at_block_ret ?_
                refine at_then_ret ?_
                have hR := Option.some.inj ho366
                subst hR
                have hT := thn_inl H
                have hR := Option.some.inj hT
                subst hR
                exact at_ret1 rfl rfl ⟨_, rfl, rfl, HM⟩
              · replace ho366 := cond_f hb421 ho366
                refine run_skip ?_
                refine at_then ?_
                refine run_seq ?_
                obtain ⟨e422, ho366⟩ := chk_some ho366
                obtain ⟨e426, ho366⟩ := chk_some ho366
                obtain ⟨t428, h429, ho366⟩ := bind_some ho366
                refine run_drawf (fun w_ => Mem w [] w_ []) [(0, true), (1, true), (2, true), (3, true), (4, true), (5, true), (6, true), (7, true), (8, true), (9, true), (10, true), (11, true), (12, true), (13, false)] mixed rfl rfl (by kernel_rfl) ?_
                replace HM := HM.grow (fr_drew _)
                have hS := Mem.suf (M := []) HM
                refine drwp_take rfl (guard_none rfl) rfl rfl (fun w_ hS_ => (ex_move rfl rfl)) hS ?_
                refine drwp_take rfl (guard_none rfl) rfl rfl (fun w_ hS_ => (ex_nilCheck rfl rfl)) hS ?_
                refine drwp_take rfl (guard_none rfl) rfl rfl (fun w_ hS_ => (ex_fieldAddr (off' := f0 + 3) rfl rfl Tryd.underlying38 rfl tsz22 rfl)) hS ?_
                refine drwp_take rfl (guard_none rfl) rfl rfl (fun w_ hS_ => (ex_load1 rfl rfl Tryd.underlying22 rfl ((hS_.at_ hc0) 3 _ rfl))) hS ?_
                refine drwp_take rfl (guard_none rfl) rfl rfl (fun w_ hS_ => (ex_move rfl rfl)) hS ?_
                refine drwp_takeE rfl (guard_none rfl) rfl rfl (ex_cutH kInt rfl rfl rfl Tryd.underlying22 tsz2 hp0_0 e422) hS ?_
                rintro u423 hr425
                refine drwp_take rfl (guard_none rfl) rfl rfl (fun w_ hS_ => (ex_move rfl rfl)) hS ?_
                refine drwp_take rfl (guard_none rfl) rfl rfl (fun w_ hS_ => (ex_nilCheck rfl rfl)) hS ?_
                refine drwp_take rfl (guard_none rfl) rfl rfl (fun w_ hS_ => (ex_fieldAddr (off' := f0 + 3) rfl rfl Tryd.underlying38 rfl tsz22 rfl)) hS ?_
                refine drwp_take rfl (guard_none rfl) rfl rfl (fun w_ hS_ => (ex_load1 rfl rfl Tryd.underlying22 rfl ((hS_.at_ hc0) 3 _ rfl))) hS ?_
                refine drwp_take rfl (guard_none rfl) rfl rfl (fun w_ hS_ => (ex_move rfl rfl)) hS ?_
                have hc427 : CellsAt _ (sb p0_0) (so p0_0 + (a387).toNat * 1) [(.int .i64 (gt x0.fTxs a387))] := rd_plain hp0_0 e426
                refine drwp_take rfl (guard_none rfl) rfl rfl (fun w_ hS_ => (ex_indexAddr (d := kInt) rfl rfl rfl Tryd.underlying22 tsz2 hp0_0 (idx_lo e426) (idx_hi e426))) hS ?_
                refine drwp_take rfl (guard_none rfl) rfl rfl (fun w_ hS_ => (ex_load1 rfl rfl Tryd.underlying2 rfl ((hS_.at_ hc427) 0 _ rfl))) hS ?_
                refine drwp_one rfl (guard_none rfl) rfl rfl (does_callk rfl callok37 rfl (spec_l4Among.calls (x0 := x0.fTxs.take (a387).toNat) (x1 := (gt x0.fTxs a387)) (HM.rd hr425) h429)) ?_
                rintro _ w430 ⟨rfl, hn⟩
                replace HM : Mem w [] w430 [] := HM.call hn
                refine ⟨Mem.suf (M := []) HM, ?_⟩
                have hS := Mem.suf (M := []) HM
                refine drwp_done ?_
                refine at_then ?_
                refine run_cond (b := t428) rfl (fun hb431 => ?_) (fun hb431 => ?_)
                · replace ho366 := cond_t hb431 ho366
                  refine run_seq ?_
                  refine run_region rfl ?_
                  refine ops_ex rfl (guard_none rfl) rfl rfl (ex_assign rfl rfl) ?_
                  refine ops_nil ?_
                  refine at_then ?_
                  refine run_ret ?_
                  refine at_block_ret ?_
                  refine at_then_ret ?_
                  refine at_then_ret ?_
                  refine at_block_ret ?_
                  refine at_then_ret ?_
                  have hR := Option.some.inj ho366
                  subst hR
                  have hT := thn_inl H
                  have hR := Option.some.inj hT
                  subst hR
                  exact at_ret1 rfl rfl ⟨_, rfl, rfl, HM⟩
                · replace ho366 := cond_f hb431 ho366
                  refine run_skip ?_
                  refine at_block ?_
                  refine at_then ?_
                  refine run_region rfl ?_
                  refine ops_ex rfl (guard_none rfl) rfl rfl (ex_move rfl rfl) ?_
                  refine ops_ex rfl (guard_none rfl) rfl rfl (ex_add rfl rfl rfl) ?_
                  refine ops_ex rfl (guard_none rfl) rfl rfl (ex_assign rfl rfl) ?_
                  refine ops_nil ?_
                  exact at_again k408 (ρ1 := [(0, .pointer (some ⟨b0, f0, none⟩)), (3, .int .i64 (wrap64 (a387 + 1)))]) (Nat.lt_succ_self _) ⟨_, ho366, rfl, HM⟩ (Sub.cons rfl (Sub.cons rfl Sub.nil))
            · replace ho366 := cond_f hb410 ho366
              refine run_exit ?_
              refine at_then_exit ?_
              refine at_then_exit ?_
              refine at_block_exit ?_
              exact at_mid (ρ' := []) ⟨(Option.some.inj ho366), rfl, HM⟩ Sub.nil
          · rintro _ w432 ⟨rfl, rfl, HM⟩
            replace H := (thn_inr H)
            refine run_seq ?_
            refine run_region rfl ?_
            refine ops_ex rfl (guard_none rfl) rfl rfl (ex_assign rfl rfl) ?_
            refine ops_nil ?_
            refine at_then ?_
            refine run_ret ?_
            have hR := Option.some.inj H
            subst hR
            exact at_ret1 rfl rfl ⟨_, rfl, rfl, HM⟩

def spec_l2Digits.f : Nat → Int → Option ByteArray
  | 0, _ => none
  | k + 1, x0 => (bif (decide (x0 < 10)) then some (strOfNums ([IntKind.u8.wrap (wrap64 (48 + x0))] : List Int)) else (chk ((10 : Int) != 0) (chk ((10 : Int) != 0) ((spec_l2Digits.f k (IntKind.i64.wrap (Int.tdiv x0 (10 : Int)))).bind fun t463 => (chk (leB (t463.size + (strOfNums ([IntKind.u8.wrap (wrap64 (48 + (Int.tmod x0 (10 : Int))))] : List Int)).size) 9223372036854775807) (some (t463 ++ (strOfNums ([IntKind.u8.wrap (wrap64 (48 + (Int.tmod x0 (10 : Int))))] : List Int)))))))))
theorem spec_l2Digits.f_s (k : Nat) (x0 : Int) : spec_l2Digits.f (k + 1) x0 = (bif (decide (x0 < 10)) then some (strOfNums ([IntKind.u8.wrap (wrap64 (48 + x0))] : List Int)) else (chk ((10 : Int) != 0) (chk ((10 : Int) != 0) ((spec_l2Digits.f k (IntKind.i64.wrap (Int.tdiv x0 (10 : Int)))).bind fun t463 => (chk (leB (t463.size + (strOfNums ([IntKind.u8.wrap (wrap64 (48 + (Int.tmod x0 (10 : Int))))] : List Int)).size) 9223372036854775807) (some (t463 ++ (strOfNums ([IntKind.u8.wrap (wrap64 (48 + (Int.tmod x0 (10 : Int))))] : List Int))))))))) := rfl
theorem spec_l2Digits.calls_all : ∀ (k : Nat) (x0 : Int), ∀ {w : World} {r : ByteArray} (H : spec_l2Digits.f k x0 = some r),
    Calls Tryd.prog 30 ([.int .i64 x0] : List Value).toArray w (fun e w_ => ∃ v, e = .returned v ∧ v = (.string r) ∧ Mem w [] w_ []) := by
  intro k
  induction k with
  | zero => intro x0  w  r H; exact nomatch H
  | succ k ih =>
  intro x0  w  r H
  have HM := Mem.start w
  refine calls_run (N := 20) Tryd.func30 rfl rfl rfl rfl ?_
  rw [spec_l2Digits.f_s] at H
  refine run_seq ?_
  refine run_region rfl ?_
  refine ops_ex rfl (guard_none rfl) rfl rfl (ex_assign rfl rfl) ?_
  refine ops_nil ?_
  refine at_then ?_
  refine run_seq ?_
  refine run_seq ?_
  refine run_region rfl ?_
  refine ops_ex rfl (guard_none rfl) rfl rfl (ex_move rfl rfl) ?_
  refine ops_ex rfl (guard_none rfl) rfl rfl (ex_lss rfl rfl rfl) ?_
  refine ops_nil ?_
  refine at_then ?_
  refine run_cond (b := (decide (x0 < 10))) rfl (fun hb456 => ?_) (fun hb456 => ?_)
  · replace H := cond_t hb456 H
    refine run_seq ?_
    refine run_region rfl ?_
    refine ops_ex rfl (guard_none rfl) rfl rfl (ex_move rfl rfl) ?_
    refine ops_ex rfl (guard_none rfl) rfl rfl (ex_add rfl rfl rfl) ?_
    refine ops_ex rfl (guard_none rfl) rfl rfl (ex_conv rfl rfl (by rw [Tryd.underlying2]; rfl) Tryd.underlying5) ?_
    refine ops_does rfl (guard_none rfl) rfl rfl (does_lit (e := 5) (cs := [.int .u8 (IntKind.u8.wrap (wrap64 (48 + x0)))]) (xs := ([IntKind.u8.wrap (wrap64 (48 + x0))] : List Int)) kU8 rfl rfl (fun _ => by kernel_rfl) rfl rfl (fun _ _ h => by have h' : _ = [] := h; subst h'; exact (Elems.cons (d := kU8) (f := []) ⟨rfl, rfl⟩ .nil)) HM.emp) ?_
    rintro v457 w460 HM
    refine ops_ex rfl (guard_none rfl) rfl rfl (ex_bstr (e := 5) rfl rfl Tryd.underlying61 Tryd.underlying5 Tryd.underlying9 (HM.own_rd 0 rfl)) ?_
    refine ops_ex rfl (guard_none rfl) rfl rfl (ex_assign rfl rfl) ?_
    refine ops_nil ?_
    refine at_then ?_
    refine run_ret ?_
    refine at_then_ret ?_
    replace HM := (HM.front 0 rfl rfl).drop
    have hR := Option.some.inj H
    subst hR
    exact at_ret1 rfl rfl ⟨_, rfl, rfl, HM⟩
  · replace H := cond_f hb456 H
    refine run_skip ?_
    refine at_then ?_
    refine run_seq ?_
    obtain ⟨e461, H⟩ := chk_some H
    obtain ⟨e462, H⟩ := chk_some H
    obtain ⟨t463, h464, H⟩ := bind_some H
    obtain ⟨e468, H⟩ := chk_some H
    refine run_meet (fun ρ_ w_ => ρ_ = [(2, .string (t463 ++ (strOfNums ([IntKind.u8.wrap (wrap64 (48 + (Int.tmod x0 (10 : Int))))] : List Int))))] ∧ Mem w [] w_ []) ?_ ?_
    · skip
      refine run_draw (fun w_ => Mem w [] w_ []) mixed rfl (l := #[false, false, false, false, false, false, false, false, false, false, false]) rfl ?_
      replace HM := HM.grow (fr_drew _)
      have hS := Mem.suf (M := []) HM
      refine drw_take (i := 0) (l' := #[true, false, false, false, false, false, false, false, false, false, false]) rfl (guard_none rfl) rfl rfl (by kernel_rfl) (fun w_ hS_ => (ex_move rfl rfl)) hS ?_
      refine drw_take (i := 1) (l' := #[true, true, false, false, false, false, false, false, false, false, false]) rfl (guard_none rfl) rfl rfl (by kernel_rfl) (fun w_ hS_ => (ex_quok rfl rfl rfl e461)) hS ?_
      refine drw_take (i := 3) (l' := #[true, true, false, true, false, false, false, false, false, false, false]) rfl (guard_none rfl) rfl rfl (by kernel_rfl) (fun w_ hS_ => (ex_move rfl rfl)) hS ?_
      refine drw_take (i := 4) (l' := #[true, true, false, true, true, false, false, false, false, false, false]) rfl (guard_none rfl) rfl rfl (by kernel_rfl) (fun w_ hS_ => (ex_remk rfl rfl rfl e462)) hS ?_
      refine drw_take (i := 5) (l' := #[true, true, false, true, true, true, false, false, false, false, false]) rfl (guard_none rfl) rfl rfl (by kernel_rfl) (fun w_ hS_ => (ex_add rfl rfl rfl)) hS ?_
      refine drw_take (i := 6) (l' := #[true, true, false, true, true, true, true, false, false, false, false]) rfl (guard_none rfl) rfl rfl (by kernel_rfl) (fun w_ hS_ => (ex_conv rfl rfl (by rw [Tryd.underlying2]; rfl) Tryd.underlying5)) hS ?_
      refine drw_any [2, 7] (by kernel_rfl) rfl (.cons ?_ (.cons ?_ .nil))
      · skip
        refine br_does (l' := #[true, true, true, true, true, true, true, false, false, false, false]) rfl (guard_none rfl) rfl rfl (by kernel_rfl) (does_callk rfl callok30 rfl (ih (IntKind.i64.wrap (Int.tdiv x0 (10 : Int))) h464)) ?_
        rintro _ w469 ⟨rfl, hn⟩
        replace HM : Mem w [] w469 [] := HM.call hn
        refine ⟨Mem.suf (M := []) HM, ?_⟩
        have hS := Mem.suf (M := []) HM
        refine drw_any [7] (by kernel_rfl) rfl (.cons ?_ .nil)
        refine br_does (l' := #[true, true, true, true, true, true, true, true, false, false, false]) rfl (guard_none rfl) rfl rfl (by kernel_rfl) (does_lit (e := 5) (cs := [.int .u8 (IntKind.u8.wrap (wrap64 (48 + (Int.tmod x0 (10 : Int)))))]) (xs := ([IntKind.u8.wrap (wrap64 (48 + (Int.tmod x0 (10 : Int))))] : List Int)) kU8 rfl rfl (fun _ => by kernel_rfl) rfl rfl (fun _ _ h => by have h' : _ = [] := h; subst h'; exact (Elems.cons (d := kU8) (f := []) ⟨rfl, rfl⟩ .nil)) HM.emp) ?_
        rintro v465 w470 HM
        refine ⟨Mem.suf (M := [own kU8 5 v465 ([IntKind.u8.wrap (wrap64 (48 + (Int.tmod x0 (10 : Int))))] : List Int)]) HM, ?_⟩
        have hS := Mem.suf (M := [own kU8 5 v465 ([IntKind.u8.wrap (wrap64 (48 + (Int.tmod x0 (10 : Int))))] : List Int)]) HM
        refine drw_any [8] (by kernel_rfl) rfl (.cons ?_ .nil)
        refine br_does (l' := #[true, true, true, true, true, true, true, true, true, false, false]) rfl (guard_none rfl) rfl rfl (by kernel_rfl) (does_ex' (ex_bstr (e := 5) rfl rfl Tryd.underlying61 Tryd.underlying5 Tryd.underlying9 (HM.own_rd 0 rfl))) ?_
        rintro _ _ ⟨rfl, rfl⟩
        refine ⟨hS, ?_⟩
        refine drw_take (i := 9) (l' := #[true, true, true, true, true, true, true, true, true, true, false]) rfl (guard_none rfl) rfl rfl (by kernel_rfl) (fun w_ hS_ => (ex_sadd rfl rfl rfl (leB_le e468))) hS ?_
        refine drw_take (i := 10) (l' := #[true, true, true, true, true, true, true, true, true, true, true]) rfl (guard_none rfl) rfl rfl (by kernel_rfl) (fun w_ hS_ => (ex_assign rfl rfl)) hS ?_
        refine drw_done (by kernel_rfl) ?_
        replace HM := (HM.front 0 rfl rfl).drop
        exact at_meet [(2, .string (t463 ++ (strOfNums ([IntKind.u8.wrap (wrap64 (48 + (Int.tmod x0 (10 : Int))))] : List Int))))] ⟨rfl, HM⟩ (Sub.cons rfl Sub.nil)
      · skip
        refine br_does (l' := #[true, true, false, true, true, true, true, true, false, false, false]) rfl (guard_none rfl) rfl rfl (by kernel_rfl) (does_lit (e := 5) (cs := [.int .u8 (IntKind.u8.wrap (wrap64 (48 + (Int.tmod x0 (10 : Int)))))]) (xs := ([IntKind.u8.wrap (wrap64 (48 + (Int.tmod x0 (10 : Int))))] : List Int)) kU8 rfl rfl (fun _ => by kernel_rfl) rfl rfl (fun _ _ h => by have h' : _ = [] := h; subst h'; exact (Elems.cons (d := kU8) (f := []) ⟨rfl, rfl⟩ .nil)) HM.emp) ?_
        rintro v465 w471 HM
        refine ⟨Mem.suf (M := [own kU8 5 v465 ([IntKind.u8.wrap (wrap64 (48 + (Int.tmod x0 (10 : Int))))] : List Int)]) HM, ?_⟩
        have hS := Mem.suf (M := [own kU8 5 v465 ([IntKind.u8.wrap (wrap64 (48 + (Int.tmod x0 (10 : Int))))] : List Int)]) HM
        refine drw_any [2, 8] (by kernel_rfl) rfl (.cons ?_ (.cons ?_ .nil))
        · skip
          refine br_does (l' := #[true, true, true, true, true, true, true, true, false, false, false]) rfl (guard_none rfl) rfl rfl (by kernel_rfl) (does_callk rfl callok30 rfl (ih (IntKind.i64.wrap (Int.tdiv x0 (10 : Int))) h464)) ?_
          rintro _ w472 ⟨rfl, hn⟩
          replace HM : Mem w [] w472 [own kU8 5 v465 ([IntKind.u8.wrap (wrap64 (48 + (Int.tmod x0 (10 : Int))))] : List Int)] := HM.call hn
          refine ⟨Mem.suf (M := [own kU8 5 v465 ([IntKind.u8.wrap (wrap64 (48 + (Int.tmod x0 (10 : Int))))] : List Int)]) HM, ?_⟩
          have hS := Mem.suf (M := [own kU8 5 v465 ([IntKind.u8.wrap (wrap64 (48 + (Int.tmod x0 (10 : Int))))] : List Int)]) HM
          refine drw_any [8] (by kernel_rfl) rfl (.cons ?_ .nil)
          refine br_does (l' := #[true, true, true, true, true, true, true, true, true, false, false]) rfl (guard_none rfl) rfl rfl (by kernel_rfl) (does_ex' (ex_bstr (e := 5) rfl rfl Tryd.underlying61 Tryd.underlying5 Tryd.underlying9 (HM.own_rd 0 rfl))) ?_
          rintro _ _ ⟨rfl, rfl⟩
          refine ⟨hS, ?_⟩
          refine drw_take (i := 9) (l' := #[true, true, true, true, true, true, true, true, true, true, false]) rfl (guard_none rfl) rfl rfl (by kernel_rfl) (fun w_ hS_ => (ex_sadd rfl rfl rfl (leB_le e468))) hS ?_
          refine drw_take (i := 10) (l' := #[true, true, true, true, true, true, true, true, true, true, true]) rfl (guard_none rfl) rfl rfl (by kernel_rfl) (fun w_ hS_ => (ex_assign rfl rfl)) hS ?_
          refine drw_done (by kernel_rfl) ?_
          replace HM := (HM.front 0 rfl rfl).drop
          exact at_meet [(2, .string (t463 ++ (strOfNums ([IntKind.u8.wrap (wrap64 (48 + (Int.tmod x0 (10 : Int))))] : List Int))))] ⟨rfl, HM⟩ (Sub.cons rfl Sub.nil)
        · skip
          refine br_does (l' := #[true, true, false, true, true, true, true, true, true, false, false]) rfl (guard_none rfl) rfl rfl (by kernel_rfl) (does_ex' (ex_bstr (e := 5) rfl rfl Tryd.underlying61 Tryd.underlying5 Tryd.underlying9 (HM.own_rd 0 rfl))) ?_
          rintro _ _ ⟨rfl, rfl⟩
          refine ⟨hS, ?_⟩
          refine drw_any [2] (by kernel_rfl) rfl (.cons ?_ .nil)
          refine br_does (l' := #[true, true, true, true, true, true, true, true, true, false, false]) rfl (guard_none rfl) rfl rfl (by kernel_rfl) (does_callk rfl callok30 rfl (ih (IntKind.i64.wrap (Int.tdiv x0 (10 : Int))) h464)) ?_
          rintro _ w473 ⟨rfl, hn⟩
          replace HM : Mem w [] w473 [own kU8 5 v465 ([IntKind.u8.wrap (wrap64 (48 + (Int.tmod x0 (10 : Int))))] : List Int)] := HM.call hn
          refine ⟨Mem.suf (M := [own kU8 5 v465 ([IntKind.u8.wrap (wrap64 (48 + (Int.tmod x0 (10 : Int))))] : List Int)]) HM, ?_⟩
          have hS := Mem.suf (M := [own kU8 5 v465 ([IntKind.u8.wrap (wrap64 (48 + (Int.tmod x0 (10 : Int))))] : List Int)]) HM
          refine drw_take (i := 9) (l' := #[true, true, true, true, true, true, true, true, true, true, false]) rfl (guard_none rfl) rfl rfl (by kernel_rfl) (fun w_ hS_ => (ex_sadd rfl rfl rfl (leB_le e468))) hS ?_
          refine drw_take (i := 10) (l' := #[true, true, true, true, true, true, true, true, true, true, true]) rfl (guard_none rfl) rfl rfl (by kernel_rfl) (fun w_ hS_ => (ex_assign rfl rfl)) hS ?_
          refine drw_done (by kernel_rfl) ?_
          replace HM := (HM.front 0 rfl rfl).drop
          exact at_meet [(2, .string (t463 ++ (strOfNums ([IntKind.u8.wrap (wrap64 (48 + (Int.tmod x0 (10 : Int))))] : List Int))))] ⟨rfl, HM⟩ (Sub.cons rfl Sub.nil)
    · rintro _ w474 ⟨rfl, HM⟩
      refine at_then ?_
      refine run_ret ?_
      have hR := Option.some.inj H
      subst hR
      exact at_ret1 rfl rfl ⟨_, rfl, rfl, HM⟩
theorem spec_l2Digits.calls {k : Nat} {x0 : Int}  {w : World}  {r : ByteArray} (H : spec_l2Digits.f k x0 = some r) :
    Calls Tryd.prog 30 ([.int .i64 x0] : List Value).toArray w (fun e w_ => ∃ v, e = .returned v ∧ v = (.string r) ∧ Mem w [] w_ []) := spec_l2Digits.calls_all k x0  H
end Go.Proofs.YtdhkcglfeiapoaaDoor.Zk
