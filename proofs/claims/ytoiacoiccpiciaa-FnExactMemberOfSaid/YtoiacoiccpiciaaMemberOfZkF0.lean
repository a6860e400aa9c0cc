/- What functions of the program compute, each as a plain function, and that they do. Conditions: as each theorem states them. -/
import Derived.Test.YtoiacoiccpiciaaMemberOfZkTy
namespace Go.Proofs.Ytoiacoiccpiciaa.Zk
open Go Go.RowKit Go.IntWalk Go.Proofs
set_option linter.unusedVariables false
set_option linter.unusedSimpArgs false
set_option maxRecDepth 100000
set_option maxHeartbeats 4000000
def laws_szMemberS.f (k : Nat) (x0 : List Member) (x1 : Int) : Option Int := (bif (decide ((wrap64 (x1 - (x0.length : Int))) < 0)) then some (-1) else some (wrap64 (x1 - (x0.length : Int))))
theorem laws_szMemberS.calls {k : Nat} {x0 : List Member} {x1 : Int} {p0 : Value} {w : World} (hp0 : RdS kMember w p0 x0) {r : Int} (H : laws_szMemberS.f k x0 x1 = some r) :
    Calls Try.prog 48 ([p0, .int .i64 x1] : List Value).toArray w (fun e w_ => ∃ v, e = .returned v ∧ v = (.int .i64 r) ∧ Mem w [] w_ []) := by
  have HM := Mem.start w
  refine calls_run (N := 12) Try.func48 rfl rfl rfl rfl ?_
  unfold laws_szMemberS.f at H
  refine run_seq ?_
  refine run_region rfl ?_
  refine ops_ex rfl (guard_none rfl) rfl rfl (ex_assign rfl rfl) ?_
  refine ops_nil ?_
  refine at_then ?_
  refine run_seq ?_
  refine run_region rfl ?_
  refine ops_ex rfl (guard_none rfl) rfl rfl (ex_move rfl rfl) ?_
  refine ops_ex rfl (guard_none rfl) rfl rfl (ex_move rfl rfl) ?_
  refine ops_ex rfl (guard_none rfl) rfl rfl (ex_len (d := kMember) (xs := x0) rfl rfl Try.underlying44 hp0) ?_
  refine ops_ex rfl (guard_none rfl) rfl rfl (ex_sub rfl rfl rfl) ?_
  refine ops_ex rfl (guard_none rfl) rfl rfl (ex_assign rfl rfl) ?_
  refine ops_nil ?_
  refine at_then ?_
  refine run_seq ?_
  refine run_seq ?_
  refine run_region rfl ?_
  refine ops_ex rfl (guard_none rfl) rfl rfl (ex_move rfl rfl) ?_
  refine ops_ex rfl (guard_none rfl) rfl rfl (ex_lss rfl rfl rfl) ?_
  refine ops_nil ?_
  refine at_then ?_
  refine run_cond (b := (decide ((wrap64 (x1 - (x0.length : Int))) < 0))) rfl (fun hb2 => ?_) (fun hb2 => ?_)
  · replace H := cond_t hb2 H
    refine run_seq ?_
    refine run_region rfl ?_
    refine ops_ex rfl (guard_none rfl) rfl rfl (ex_assign rfl rfl) ?_
    refine ops_nil ?_
    refine at_then ?_
    refine run_ret ?_
    refine at_then_ret ?_
    have hR := Option.some.inj H
    subst hR
    exact at_ret1 rfl rfl ⟨_, rfl, rfl, HM⟩
  · replace H := cond_f hb2 H
    refine run_skip ?_
    refine at_then ?_
    refine run_seq ?_
    refine run_region rfl ?_
    refine ops_ex rfl (guard_none rfl) rfl rfl (ex_move rfl rfl) ?_
    refine ops_ex rfl (guard_none rfl) rfl rfl (ex_assign rfl rfl) ?_
    refine ops_nil ?_
    refine at_then ?_
    refine run_ret ?_
    have hR := Option.some.inj H
    subst hR
    exact at_ret1 rfl rfl ⟨_, rfl, rfl, HM⟩

def laws_toRef.f (k : Nat) (x0 : Ref) : Option Ref := some x0
theorem laws_toRef.calls {k : Nat} {x0 : Ref}  {w : World}  {r : Ref} (H : laws_toRef.f k x0 = some r) :
    Calls Try.prog 122 ([.agg #[(.int .i64 x0.fTx), (.int .i64 x0.fAt)]] : List Value).toArray w (fun e w_ => ∃ v, e = .returned v ∧ v = (.agg #[.int .i64 r.fTx, .int .i64 r.fAt]) ∧ Mem w [] w_ []) := by
  have HM := Mem.start w
  refine calls_run (N := 11) Try.func122 rfl rfl rfl rfl ?_
  unfold laws_toRef.f at H
  refine run_seq ?_
  refine run_region rfl ?_
  refine ops_does rfl (guard_none rfl) rfl rfl (does_box (cs := [.int .i64 x0.fTx, .int .i64 x0.fAt]) rfl rfl rfl HM) ?_
  rintro _ w39 ⟨b33, rfl, HM⟩
  refine ops_does rfl (guard_none rfl) rfl rfl (does_alloc (cs := [.int .i64 0, .int .i64 0]) rfl tz99 rfl HM) ?_
  rintro _ w40 ⟨b36, rfl, HM⟩
  refine ops_nil ?_
  refine at_then ?_
  refine run_seq ?_
  refine run_region rfl ?_
  refine ops_does rfl (guard_none rfl) rfl rfl (does_alloc (cs := [.int .i64 0, .int .i64 0]) rfl tz99 rfl HM) ?_
  rintro _ w44 ⟨b41, rfl, HM⟩
  refine ops_nil ?_
  refine at_then ?_
  refine run_seq ?_
  refine run_region rfl ?_
  refine ops_ex rfl (guard_none rfl) rfl rfl (ex_fieldAddr (off' := 0) rfl rfl Try.underlying92 rfl tsz2 rfl) ?_
  refine ops_ex rfl (guard_none rfl) rfl rfl (ex_load1 rfl rfl Try.underlying2 rfl ((HM.box_at 2 rfl) 0 _ rfl)) ?_
  refine ops_ex rfl (guard_none rfl) rfl rfl (ex_fieldAddr (off' := 0) rfl rfl Try.underlying99 rfl tsz2 rfl) ?_
  refine ops_doesS rfl (guard_none rfl) rfl (does_store (vs := [.int .i64 x0.fTx]) (cs' := [.int .i64 x0.fTx, .int .i64 0]) rfl rfl rfl rfl tsz2 (Ones.int Ones.nil) rfl rfl HM) ?_
  rintro w45 HM
  refine ops_nil ?_
  refine at_then ?_
  refine run_seq ?_
  refine run_region rfl ?_
  refine ops_ex rfl (guard_none rfl) rfl rfl (ex_fieldAddr (off' := 1) rfl rfl Try.underlying92 rfl tsz2 rfl) ?_
  refine ops_ex rfl (guard_none rfl) rfl rfl (ex_load1 rfl rfl Try.underlying2 rfl ((HM.box_at 2 rfl) 1 _ rfl)) ?_
  refine ops_ex rfl (guard_none rfl) rfl rfl (ex_fieldAddr (off' := 1) rfl rfl Try.underlying99 rfl tsz2 rfl) ?_
  refine ops_doesS rfl (guard_none rfl) rfl (does_store (vs := [.int .i64 x0.fAt]) (cs' := [.int .i64 x0.fTx, .int .i64 x0.fAt]) rfl rfl rfl rfl tsz2 (Ones.int Ones.nil) rfl rfl HM) ?_
  rintro w46 HM
  refine ops_nil ?_
  refine at_then ?_
  refine run_seq ?_
  refine run_region rfl ?_
  refine ops_ex rfl (guard_none rfl) rfl rfl (ex_loadN (cs := [(.int .i64 x0.fTx), (.int .i64 x0.fAt)]) rfl rfl Try.underlying99 rfl tsz99 rfl ((HM.box_at 0 rfl).sub 0 2 rfl)) ?_
  replace HM := HM.front 1 rfl rfl
  refine ops_doesS rfl (guard_none rfl) rfl (does_store (vs := [.int .i64 x0.fTx, .int .i64 x0.fAt]) (cs' := [.int .i64 x0.fTx, .int .i64 x0.fAt]) rfl rfl rfl rfl tsz99 (Ones.int (Ones.int Ones.nil)) rfl rfl HM) ?_
  rintro w47 HM
  refine ops_nil ?_
  refine at_then ?_
  refine run_ret ?_
  replace HM := (HM.front 1 rfl rfl).drop
  replace HM := (HM.front 1 rfl rfl).drop
  have hcb0 := HM.box_at 0 rfl
  replace HM := (HM.front 0 rfl rfl).drop
  have hR := Option.some.inj H
  subst hR
  exact at_retN rfl rfl Try.underlying99 rfl tsz99 rfl hcb0 ⟨_, rfl, rfl, HM⟩

def laws_toMember.f (k : Nat) (x0 : Member) : Option Member := ((laws_toRef.f k x0.fRef).bind fun t63 => some (⟨x0.fKey, t63⟩ : Member))
theorem laws_toMember.calls {k : Nat} {x0 : Member}  {w : World}  {r : Member} (H : laws_toMember.f k x0 = some r) :
    Calls Try.prog 111 ([.agg #[(.int .i64 x0.fKey), (.int .i64 x0.fRef.fTx), (.int .i64 x0.fRef.fAt)]] : List Value).toArray w (fun e w_ => ∃ v, e = .returned v ∧ v = (.agg #[.int .i64 r.fKey, .int .i64 r.fRef.fTx, .int .i64 r.fRef.fAt]) ∧ Mem w [] w_ []) := by
  have HM := Mem.start w
  refine calls_run (N := 12) Try.func111 rfl rfl rfl rfl ?_
  unfold laws_toMember.f at H
  refine run_seq ?_
  refine run_region rfl ?_
  refine ops_does rfl (guard_none rfl) rfl rfl (does_box (cs := [.int .i64 x0.fKey, .int .i64 x0.fRef.fTx, .int .i64 x0.fRef.fAt]) rfl rfl rfl HM) ?_
  rintro _ w56 ⟨b50, rfl, HM⟩
  refine ops_does rfl (guard_none rfl) rfl rfl (does_alloc (cs := [.int .i64 0, .int .i64 0, .int .i64 0]) rfl tz144 rfl HM) ?_
  rintro _ w57 ⟨b53, rfl, HM⟩
  refine ops_nil ?_
  refine at_then ?_
  refine run_seq ?_
  refine run_region rfl ?_
  refine ops_does rfl (guard_none rfl) rfl rfl (does_alloc (cs := [.int .i64 0, .int .i64 0, .int .i64 0]) rfl tz144 rfl HM) ?_
  rintro _ w61 ⟨b58, rfl, HM⟩
  refine ops_nil ?_
  refine at_then ?_
  refine run_seq ?_
  refine run_region rfl ?_
  refine ops_ex rfl (guard_none rfl) rfl rfl (ex_fieldAddr (off' := 0) rfl rfl Try.underlying147 rfl tsz2 rfl) ?_
  refine ops_ex rfl (guard_none rfl) rfl rfl (ex_load1 rfl rfl Try.underlying2 rfl ((HM.box_at 2 rfl) 0 _ rfl)) ?_
  refine ops_ex rfl (guard_none rfl) rfl rfl (ex_fieldAddr (off' := 0) rfl rfl Try.underlying144 rfl tsz2 rfl) ?_
  refine ops_doesS rfl (guard_none rfl) rfl (does_store (vs := [.int .i64 x0.fKey]) (cs' := [.int .i64 x0.fKey, .int .i64 0, .int .i64 0]) rfl rfl rfl rfl tsz2 (Ones.int Ones.nil) rfl rfl HM) ?_
  rintro w62 HM
  refine ops_nil ?_
  refine at_then ?_
  refine run_seq ?_
  obtain ⟨t63, h64, H⟩ := bind_some H
  refine run_region rfl ?_
  refine ops_ex rfl (guard_none rfl) rfl rfl (ex_fieldAddr (off' := 1) rfl rfl Try.underlying147 rfl tsz92 rfl) ?_
  refine ops_ex rfl (guard_none rfl) rfl rfl (ex_loadN (cs := [(.int .i64 x0.fRef.fTx), (.int .i64 x0.fRef.fAt)]) rfl rfl Try.underlying92 rfl tsz92 rfl ((HM.box_at 2 rfl).sub 1 2 rfl)) ?_
  refine ops_does rfl (guard_none rfl) rfl rfl (does_callk rfl callok122 rfl (laws_toRef.calls (x0 := x0.fRef) h64)) ?_
  rintro _ w65 ⟨rfl, hn⟩
  replace HM : Mem w [] w65 [box b58 144 [.int .i64 x0.fKey, .int .i64 0, .int .i64 0], box b53 144 [.int .i64 0, .int .i64 0, .int .i64 0], box b50 147 [.int .i64 x0.fKey, .int .i64 x0.fRef.fTx, .int .i64 x0.fRef.fAt]] := HM.call hn
  refine ops_ex rfl (guard_none rfl) rfl rfl (ex_fieldAddr (off' := 1) rfl rfl Try.underlying144 rfl tsz99 rfl) ?_
  refine ops_doesS rfl (guard_none rfl) rfl (does_store (vs := [.int .i64 t63.fTx, .int .i64 t63.fAt]) (cs' := [.int .i64 x0.fKey, .int .i64 t63.fTx, .int .i64 t63.fAt]) rfl rfl rfl rfl tsz99 (Ones.int (Ones.int Ones.nil)) rfl rfl HM) ?_
  rintro w66 HM
  refine ops_nil ?_
  refine at_then ?_
  refine run_seq ?_
  refine run_region rfl ?_
  refine ops_ex rfl (guard_none rfl) rfl rfl (ex_loadN (cs := [(.int .i64 x0.fKey), (.int .i64 t63.fTx), (.int .i64 t63.fAt)]) rfl rfl Try.underlying144 rfl tsz144 rfl ((HM.box_at 0 rfl).sub 0 3 rfl)) ?_
  replace HM := HM.front 1 rfl rfl
  refine ops_doesS rfl (guard_none rfl) rfl (does_store (vs := [.int .i64 x0.fKey, .int .i64 t63.fTx, .int .i64 t63.fAt]) (cs' := [.int .i64 x0.fKey, .int .i64 t63.fTx, .int .i64 t63.fAt]) rfl rfl rfl rfl tsz144 (Ones.int (Ones.int (Ones.int Ones.nil))) rfl rfl HM) ?_
  rintro w67 HM
  refine ops_nil ?_
  refine at_then ?_
  refine run_ret ?_
  replace HM := (HM.front 1 rfl rfl).drop
  replace HM := (HM.front 1 rfl rfl).drop
  have hcb0 := HM.box_at 0 rfl
  replace HM := (HM.front 0 rfl rfl).drop
  have hR := Option.some.inj H
  subst hR
  exact at_retN rfl rfl Try.underlying144 rfl tsz144 rfl hcb0 ⟨_, rfl, rfl, HM⟩

def laws_toMemberS.l0 (x0 : List Member) : Nat → (List Member) → Int → Option ((List Member))
  | 0, _, _ => none
  | k + 1, a132, a134 => (bif (decide (a134 < (x0.length : Int))) then (chk (idxOk a134 x0.length) ((laws_toMember.f k (gt x0 a134)).bind fun t146 => (chk (idxOk a134 a132.length) (laws_toMemberS.l0 x0 k (a132.set (a134).toNat t146) (wrap64 (a134 + 1)))))) else some a132)
theorem laws_toMemberS.l0_z (x0 : List Member) (a132 : List Member) (a134 : Int) : laws_toMemberS.l0 x0 0 a132 a134 = none := rfl
theorem laws_toMemberS.l0_s (x0 : List Member) (k : Nat) (a132 : List Member) (a134 : Int) : laws_toMemberS.l0 x0 (k + 1) a132 a134 = (bif (decide (a134 < (x0.length : Int))) then (chk (idxOk a134 x0.length) ((laws_toMember.f k (gt x0 a134)).bind fun t146 => (chk (idxOk a134 a132.length) (laws_toMemberS.l0 x0 k (a132.set (a134).toNat t146) (wrap64 (a134 + 1)))))) else some a132) := rfl
def laws_toMemberS.f (k : Nat) (x0 : List Member) : Option ((List Member)) := (chk (decide (0 ≤ (x0.length : Int))) (chk (leB (((x0.length : Int)).toNat * 24) 281474976710656) ((laws_toMemberS.l0 x0 k (List.replicate ((x0.length : Int)).toNat (⟨0, (⟨0, 0⟩ : Ref)⟩ : Member)) 0).bind (fun a121 => some a121))))
theorem laws_toMemberS.calls {k : Nat} {x0 : List Member} {p0 : Value} {w : World} (hp0 : RdS kMember w p0 x0) {r : (List Member)} (H : laws_toMemberS.f k x0 = some r) :
    Calls Try.prog 50 ([p0] : List Value).toArray w (fun e w_ => ∃ v, e = .returned v ∧ ∃ u0 : Value, v = u0 ∧ Mem w [] w_ [own kMember 144 u0 r]) := by
  have HM := Mem.start w
  refine calls_run (N := 23) Try.func50 rfl rfl rfl rfl ?_
  unfold laws_toMemberS.f at H
  refine run_seq ?_
  refine run_region rfl ?_
  refine ops_ex rfl (guard_none rfl) rfl rfl (ex_assign rfl rfl) ?_
  refine ops_nil ?_
  refine at_then ?_
  refine run_seq ?_
  obtain ⟨e95, H⟩ := chk_some H
  obtain ⟨e96, H⟩ := chk_some H
  refine run_region rfl ?_
  refine ops_ex rfl (guard_none rfl) rfl rfl (ex_move rfl rfl) ?_
  refine ops_ex rfl (guard_none rfl) rfl rfl (ex_len (d := kMember) (xs := x0) rfl rfl Try.underlying44 hp0) ?_
  refine ops_does rfl (guard_none rfl) rfl rfl (does_make (x := (⟨0, (⟨0, 0⟩ : Ref)⟩ : Member)) kMember rfl rfl rfl Try.underlying49 tsz144 tby144 tz144 rfl rfl (fun _ => ⟨rfl, rfl⟩) (of_decide_eq_true e95) rfl (leB_le e96) rfl HM) ?_
  rintro v92 w97 HM
  refine ops_ex rfl (guard_none rfl) rfl rfl (ex_assign rfl rfl) ?_
  refine ops_nil ?_
  refine at_then ?_
  obtain ⟨o123, ho124, H⟩ := bind_some H
  refine run_mid (fun ρ_ w_ => ∃ v120 : Value, ∃ a121 : List Member, a121 = o123 ∧ ρ_ = [(3, v120)] ∧ Mem w [] w_ [own kMember 144 v120 a121]) ?_ ?_
  · clear H
    refine run_seq ?_
    refine run_region rfl ?_
    refine ops_ex rfl (guard_none rfl) rfl rfl (ex_assign rfl rfl) ?_
    refine ops_nil ?_
    refine at_then ?_
    refine run_block ?_
    refine run_loop (fun k_ ρ_ w_ => ∃ v131 : Value, ∃ a132 : List Member, ∃ a134 : Int, laws_toMemberS.l0 x0 k_ a132 a134 = some o123 ∧ ρ_ = [(0, p0), (3, v131), (4, .int .i64 a134)] ∧ Mem w [] w_ [own kMember 144 v131 a132]) k (ρ1 := [(0, p0), (3, v92), (4, .int .i64 0)]) ⟨_, _, _, ho124, rfl, HM⟩ (Sub.cons rfl (Sub.cons rfl (Sub.cons rfl Sub.nil))) ?_
    clear HM ho124
    rintro k141 _ w142 ⟨v131, a132, a134, ho124, rfl, HM⟩
    obtain _ | k141 := k141
    · exact nomatch ((laws_toMemberS.l0_z x0 a132 a134).symm.trans ho124)
    replace ho124 := (laws_toMemberS.l0_s x0 k141 a132 a134).symm.trans ho124
    refine run_seq ?_
    refine run_seq ?_
    refine run_region rfl ?_
    refine ops_ex rfl (guard_none rfl) rfl rfl (ex_move rfl rfl) ?_
    refine ops_ex rfl (guard_none rfl) rfl rfl (ex_move rfl rfl) ?_
    refine ops_ex rfl (guard_none rfl) rfl rfl (ex_len (d := kMember) (xs := x0) rfl rfl Try.underlying44 hp0) ?_
    refine ops_ex rfl (guard_none rfl) rfl rfl (ex_lss rfl rfl rfl) ?_
    refine ops_nil ?_
    refine at_then ?_
    refine run_cond (b := (decide (a134 < (x0.length : Int)))) rfl (fun hb143 => ?_) (fun hb143 => ?_)
    · replace ho124 := cond_t hb143 ho124
      refine run_skip ?_
      refine at_then ?_
      refine run_seq ?_
      refine run_block ?_
      obtain ⟨e144, ho124⟩ := chk_some ho124
      obtain ⟨t146, h147, ho124⟩ := bind_some ho124
      obtain ⟨e148, ho124⟩ := chk_some ho124
      refine run_region rfl ?_
      refine ops_ex rfl (guard_none rfl) rfl rfl (ex_move rfl rfl) ?_
      refine ops_ex rfl (guard_none rfl) rfl rfl (ex_move rfl rfl) ?_
      refine ops_ex rfl (guard_none rfl) rfl rfl (ex_move rfl rfl) ?_
      refine ops_ex rfl (guard_none rfl) rfl rfl (ex_move rfl rfl) ?_
      have hc145 : CellsAt _ (sb p0) (so p0 + (a134).toNat * 3) [(.int .i64 ((gt x0 a134).fKey)), (.int .i64 ((gt x0 a134).fRef.fTx)), (.int .i64 ((gt x0 a134).fRef.fAt))] := rd_plain hp0 e144
      refine ops_ex rfl (guard_none rfl) rfl rfl (ex_indexAddr (d := kMember) rfl rfl rfl Try.underlying44 tsz147 hp0 (idx_lo e144) (idx_hi e144)) ?_
      refine ops_ex rfl (guard_none rfl) rfl rfl (ex_loadN (cs := [(.int .i64 ((gt x0 a134).fKey)), (.int .i64 ((gt x0 a134).fRef.fTx)), (.int .i64 ((gt x0 a134).fRef.fAt))]) rfl rfl Try.underlying147 rfl tsz147 rfl ((HM.at_ hc145).sub 0 3 rfl)) ?_
      refine ops_does rfl (guard_none rfl) rfl rfl (does_callk rfl callok111 rfl (laws_toMember.calls (x0 := (gt x0 a134)) h147)) ?_
      rintro _ w149 ⟨rfl, hn⟩
      replace HM : Mem w [] w149 [own kMember 144 v131 a132] := HM.call hn
      refine ops_ex rfl (guard_none rfl) rfl rfl (ex_indexAddr (d := kMember) rfl rfl rfl Try.underlying49 tsz144 (HM.own_rd 0 rfl) (idx_lo e148) (idx_hi e148)) ?_
      refine ops_doesS rfl (guard_none rfl) rfl (does_setElem (vs := [(.int .i64 t146.fKey), (.int .i64 t146.fRef.fTx), (.int .i64 t146.fRef.fAt)]) (y := t146) kMember rfl rfl rfl rfl rfl tsz144 rfl rfl (idx_nat e148) (fun _ _ h => ⟨rfl, h⟩) (HM.emp.front 1 rfl rfl)) ?_
      rintro w150 HM
      refine ops_nil ?_
      refine at_block ?_
      refine at_then ?_
      refine run_region rfl ?_
      refine ops_ex rfl (guard_none rfl) rfl rfl (ex_move rfl rfl) ?_
      refine ops_ex rfl (guard_none rfl) rfl rfl (ex_add rfl rfl rfl) ?_
      refine ops_ex rfl (guard_none rfl) rfl rfl (ex_assign rfl rfl) ?_
      refine ops_nil ?_
      exact at_again k141 (ρ1 := [(0, p0), (3, v131), (4, .int .i64 (wrap64 (a134 + 1)))]) (Nat.lt_succ_self _) ⟨_, _, _, ho124, rfl, HM⟩ (Sub.cons rfl (Sub.cons rfl (Sub.cons rfl Sub.nil)))
    · replace ho124 := cond_f hb143 ho124
      refine run_exit ?_
      refine at_then_exit ?_
      refine at_then_exit ?_
      refine at_block_exit ?_
      exact at_mid (ρ' := [(3, v131)]) ⟨_, _, (Option.some.inj ho124), rfl, HM⟩ (Sub.cons rfl Sub.nil)
  · rintro _ w151 ⟨v120, a121, rfl, rfl, HM⟩
    refine run_seq ?_
    refine run_region rfl ?_
    refine ops_ex rfl (guard_none rfl) rfl rfl (ex_move rfl rfl) ?_
    refine ops_ex rfl (guard_none rfl) rfl rfl (ex_assign rfl rfl) ?_
    refine ops_nil ?_
    refine at_then ?_
    refine run_ret ?_
    have hR := Option.some.inj H
    subst hR
    exact at_ret1 rfl rfl ⟨_, rfl, _, rfl, HM⟩

def spec_l1In.f (k : Nat) (x0 : Int) (x1 : Int) (x2 : Int) : Option Bool := some ((decide (x1 ≤ x0)) && (decide (x0 ≤ x2)))
theorem spec_l1In.calls {k : Nat} {x0 : Int} {x1 : Int} {x2 : Int}  {w : World}  {r : Bool} (H : spec_l1In.f k x0 x1 x2 = some r) :
    Calls Try.prog 136 ([.int .i64 x0, .int .i64 x1, .int .i64 x2] : List Value).toArray w (fun e w_ => ∃ v, e = .returned v ∧ v = (.bool r) ∧ Mem w [] w_ []) := by
  have HM := Mem.start w
  refine calls_run (N := 15) Try.func136 rfl rfl rfl rfl ?_
  unfold spec_l1In.f at H
  refine run_seq ?_
  refine run_region rfl ?_
  refine ops_ex rfl (guard_none rfl) rfl rfl (ex_assign rfl rfl) ?_
  refine ops_nil ?_
  refine at_then ?_
  refine run_seq ?_
  refine run_meet (fun ρ_ w_ => ρ_ = [(6, .bool ((decide (x1 ≤ x0)) && (decide (x0 ≤ x2))))] ∧ Mem w [] w_ []) ?_ ?_
  · skip
    refine run_region rfl ?_
    refine ops_ex rfl (guard_none rfl) rfl rfl (ex_move rfl rfl) ?_
    refine ops_ex rfl (guard_none rfl) rfl rfl (ex_move rfl rfl) ?_
    refine ops_ex rfl (guard_none rfl) rfl rfl (ex_geq rfl rfl rfl) ?_
    refine ops_ex rfl (guard_none rfl) rfl rfl (ex_move rfl rfl) ?_
    refine bool_cases (decide (x1 ≤ x0)) (fun hg164 => ?_) (fun hg164 => ?_)
    · skip
      refine ops_ex rfl (guard_on rfl rfl rfl hg164) rfl rfl (ex_move rfl rfl) ?_
      refine ops_ex rfl (guard_on rfl rfl rfl hg164) rfl rfl (ex_move rfl rfl) ?_
      refine ops_ex rfl (guard_on rfl rfl rfl hg164) rfl rfl (ex_leq rfl rfl rfl) ?_
      refine ops_ex (v := .bool ((decide (x1 ≤ x0)) && (decide (x0 ≤ x2)))) rfl (guard_none rfl) rfl rfl (ex_pand_t rfl rfl hg164 rfl) ?_
      refine ops_ex rfl (guard_none rfl) rfl rfl (ex_assign rfl rfl) ?_
      refine ops_nil ?_
      exact at_meet [(6, .bool ((decide (x1 ≤ x0)) && (decide (x0 ≤ x2))))] ⟨rfl, HM⟩ (Sub.cons rfl Sub.nil)
    · skip
      refine ops_off rfl (guard_off rfl rfl rfl hg164) rfl rfl ?_
      refine ops_off rfl (guard_off rfl rfl rfl hg164) rfl rfl ?_
      refine ops_off rfl (guard_off rfl rfl rfl hg164) rfl rfl ?_
      have hg165 : ((decide (x1 ≤ x0)) && (decide (x0 ≤ x2))) = false := by simp only [hg164, Bool.and_true, Bool.true_and, Bool.and_false, Bool.false_and, Bool.or_true, Bool.true_or, Bool.or_false, Bool.false_or, Bool.not_true, Bool.not_false, Bool.not_not]
      refine ops_ex (v := .bool ((decide (x1 ≤ x0)) && (decide (x0 ≤ x2)))) rfl (guard_none rfl) rfl rfl (ex_pand_f rfl rfl hg164) ?_
      refine ops_ex rfl (guard_none rfl) rfl rfl (ex_assign rfl rfl) ?_
      refine ops_nil ?_
      exact at_meet [(6, .bool ((decide (x1 ≤ x0)) && (decide (x0 ≤ x2))))] ⟨rfl, HM⟩ (Sub.cons rfl Sub.nil)
  · rintro _ w166 ⟨rfl, HM⟩
    refine at_then ?_
    refine run_ret ?_
    have hR := Option.some.inj H
    subst hR
    exact at_ret1 rfl rfl ⟨_, rfl, rfl, HM⟩

def spec_l1Key.f (k : Nat) (x0 : Int) : Option Bool := ((spec_l1In.f k x0 1 999).bind fun t169 => some t169)
theorem spec_l1Key.calls {k : Nat} {x0 : Int}  {w : World}  {r : Bool} (H : spec_l1Key.f k x0 = some r) :
    Calls Try.prog 137 ([.int .i64 x0] : List Value).toArray w (fun e w_ => ∃ v, e = .returned v ∧ v = (.bool r) ∧ Mem w [] w_ []) := by
  have HM := Mem.start w
  refine calls_run (N := 5) Try.func137 rfl rfl rfl rfl ?_
  unfold spec_l1Key.f at H
  refine run_seq ?_
  refine run_region rfl ?_
  refine ops_ex rfl (guard_none rfl) rfl rfl (ex_assign rfl rfl) ?_
  refine ops_nil ?_
  refine at_then ?_
  refine run_seq ?_
  obtain ⟨t169, h170, H⟩ := bind_some H
  refine run_region rfl ?_
  refine ops_ex rfl (guard_none rfl) rfl rfl (ex_move rfl rfl) ?_
  refine ops_does rfl (guard_none rfl) rfl rfl (does_callk rfl callok136 rfl (spec_l1In.calls (x0 := x0) (x1 := 1) (x2 := 999) h170)) ?_
  rintro _ w171 ⟨rfl, hn⟩
  replace HM : Mem w [] w171 [] := HM.call hn
  refine ops_ex rfl (guard_none rfl) rfl rfl (ex_assign rfl rfl) ?_
  refine ops_nil ?_
  refine at_then ?_
  refine run_ret ?_
  have hR := Option.some.inj H
  subst hR
  exact at_ret1 rfl rfl ⟨_, rfl, rfl, HM⟩

def spec_l3Ref.f (k : Nat) (x0 : Ref) : Option Bool := ((spec_l1In.f k x0.fTx 1 60).bind fun t187 => ((bif t187 then spec_l1In.f k x0.fAt 0 3 else some default).bind fun t189 => some (t187 && t189)))
theorem spec_l3Ref.calls {k : Nat} {x0 : Ref}  {w : World}  {r : Bool} (H : spec_l3Ref.f k x0 = some r) :
    Calls Try.prog 127 ([.agg #[(.int .i64 x0.fTx), (.int .i64 x0.fAt)]] : List Value).toArray w (fun e w_ => ∃ v, e = .returned v ∧ v = (.bool r) ∧ Mem w [] w_ []) := by
  have HM := Mem.start w
  refine calls_run (N := 11) Try.func127 rfl rfl rfl rfl ?_
  unfold spec_l3Ref.f at H
  refine run_seq ?_
  refine run_region rfl ?_
  refine ops_does rfl (guard_none rfl) rfl rfl (does_box (cs := [.int .i64 x0.fTx, .int .i64 x0.fAt]) rfl rfl rfl HM) ?_
  rintro _ w186 ⟨b183, rfl, HM⟩
  refine ops_ex rfl (guard_none rfl) rfl rfl (ex_assign rfl rfl) ?_
  refine ops_nil ?_
  refine at_then ?_
  refine run_seq ?_
  obtain ⟨t187, h188, H⟩ := bind_some H
  obtain ⟨t189, h190, H⟩ := bind_some H
  refine run_meet (fun ρ_ w_ => ρ_ = [(2, .bool (t187 && t189))] ∧ Mem w [] w_ []) ?_ ?_
  · skip
    refine run_region rfl ?_
    refine ops_ex rfl (guard_none rfl) rfl rfl (ex_fieldAddr (off' := 0) rfl rfl Try.underlying99 rfl tsz2 rfl) ?_
    refine ops_ex rfl (guard_none rfl) rfl rfl (ex_load1 rfl rfl Try.underlying2 rfl ((HM.box_at 0 rfl) 0 _ rfl)) ?_
    refine ops_does rfl (guard_none rfl) rfl rfl (does_callk rfl callok136 rfl (spec_l1In.calls (x0 := x0.fTx) (x1 := 1) (x2 := 60) h188)) ?_
    rintro _ w191 ⟨rfl, hn⟩
    replace HM : Mem w [] w191 [box b183 99 [.int .i64 x0.fTx, .int .i64 x0.fAt]] := HM.call hn
    refine ops_ex rfl (guard_none rfl) rfl rfl (ex_move rfl rfl) ?_
    refine bool_cases t187 (fun hg192 => ?_) (fun hg192 => ?_)
    · skip
      refine ops_ex rfl (guard_on rfl rfl rfl hg192) rfl rfl (ex_fieldAddr (off' := 1) rfl rfl Try.underlying99 rfl tsz2 rfl) ?_
      refine ops_ex rfl (guard_on rfl rfl rfl hg192) rfl rfl (ex_load1 rfl rfl Try.underlying2 rfl ((HM.box_at 0 rfl) 1 _ rfl)) ?_
      refine ops_does rfl (guard_on rfl rfl rfl hg192) rfl rfl (does_callk rfl callok136 rfl (spec_l1In.calls (x0 := x0.fAt) (x1 := 0) (x2 := 3) (cond_t hg192 h190))) ?_
      rintro _ w193 ⟨rfl, hn⟩
      replace HM : Mem w [] w193 [box b183 99 [.int .i64 x0.fTx, .int .i64 x0.fAt]] := HM.call hn
      refine ops_ex (v := .bool (t187 && t189)) rfl (guard_none rfl) rfl rfl (ex_pand_t rfl rfl hg192 rfl) ?_
      refine ops_ex rfl (guard_none rfl) rfl rfl (ex_assign rfl rfl) ?_
      refine ops_nil ?_
      replace HM := (HM.front 0 rfl rfl).drop
      exact at_meet [(2, .bool (t187 && t189))] ⟨rfl, HM⟩ (Sub.cons rfl Sub.nil)
    · skip
      refine ops_off rfl (guard_off rfl rfl rfl hg192) rfl rfl ?_
      refine ops_off rfl (guard_off rfl rfl rfl hg192) rfl rfl ?_
      refine ops_off rfl (guard_off rfl rfl rfl hg192) rfl rfl ?_
      have hg194 : (t187 && t189) = false := by simp only [hg192, Bool.and_true, Bool.true_and, Bool.and_false, Bool.false_and, Bool.or_true, Bool.true_or, Bool.or_false, Bool.false_or, Bool.not_true, Bool.not_false, Bool.not_not]
      refine ops_ex (v := .bool (t187 && t189)) rfl (guard_none rfl) rfl rfl (ex_pand_f rfl rfl hg192) ?_
      refine ops_ex rfl (guard_none rfl) rfl rfl (ex_assign rfl rfl) ?_
      refine ops_nil ?_
      replace HM := (HM.front 0 rfl rfl).drop
      exact at_meet [(2, .bool (t187 && t189))] ⟨rfl, HM⟩ (Sub.cons rfl Sub.nil)
  · rintro _ w195 ⟨rfl, HM⟩
    refine at_then ?_
    refine run_ret ?_
    have hR := Option.some.inj H
    subst hR
    exact at_ret1 rfl rfl ⟨_, rfl, rfl, HM⟩

def spec_l6Fault.l0 (x0 : List Member) : Nat → Int → Option (Int ⊕ Unit)
  | 0, _ => none
  | k + 1, a434 => (bif (decide (a434 < (x0.length : Int))) then (chk (idxOk a434 x0.length) ((spec_l1Key.f k ((gt x0 a434).fKey)).bind fun t473 => (chk (!(!(!t473)) || (idxOk a434 x0.length)) ((bif (!(!t473)) then spec_l3Ref.f k ((gt x0 a434).fRef) else some default).bind fun t477 => (bif ((!t473) || (!t477)) then some (.inl 3) else (chk (!(decide (0 < a434)) || (idxOk a434 x0.length)) (chk (!(decide (0 < a434)) || (idxOk (wrap64 (a434 - 1)) x0.length)) (bif ((decide (0 < a434)) && (decide (((gt x0 a434).fKey) ≤ ((gt x0 (wrap64 (a434 - 1))).fKey)))) then some (.inl 1) else spec_l6Fault.l0 x0 k (wrap64 (a434 + 1)))))))))) else some (.inr ()))
theorem spec_l6Fault.l0_z (x0 : List Member) (a434 : Int) : spec_l6Fault.l0 x0 0 a434 = none := rfl
theorem spec_l6Fault.l0_s (x0 : List Member) (k : Nat) (a434 : Int) : spec_l6Fault.l0 x0 (k + 1) a434 = (bif (decide (a434 < (x0.length : Int))) then (chk (idxOk a434 x0.length) ((spec_l1Key.f k ((gt x0 a434).fKey)).bind fun t473 => (chk (!(!(!t473)) || (idxOk a434 x0.length)) ((bif (!(!t473)) then spec_l3Ref.f k ((gt x0 a434).fRef) else some default).bind fun t477 => (bif ((!t473) || (!t477)) then some (.inl 3) else (chk (!(decide (0 < a434)) || (idxOk a434 x0.length)) (chk (!(decide (0 < a434)) || (idxOk (wrap64 (a434 - 1)) x0.length)) (bif ((decide (0 < a434)) && (decide (((gt x0 a434).fKey) ≤ ((gt x0 (wrap64 (a434 - 1))).fKey)))) then some (.inl 1) else spec_l6Fault.l0 x0 k (wrap64 (a434 + 1)))))))))) else some (.inr ())) := rfl
def spec_l6Fault.l2 (x0 : List Member) (a585 : Int) : Nat → Int → Option (Int ⊕ Unit)
  | 0, _ => none
  | k + 1, a638 => (bif (decide (a638 < a585)) then (chk (idxOk a638 x0.length) (chk (idxOk a585 x0.length) (bif ((((gt x0 a638).fRef.fTx) == ((gt x0 a585).fRef.fTx)) && (((gt x0 a638).fRef.fAt) == ((gt x0 a585).fRef.fAt))) then some (.inl 7) else spec_l6Fault.l2 x0 a585 k (wrap64 (a638 + 1))))) else some (.inr ()))
theorem spec_l6Fault.l2_z (x0 : List Member) (a585 : Int) (a638 : Int) : spec_l6Fault.l2 x0 a585 0 a638 = none := rfl
theorem spec_l6Fault.l2_s (x0 : List Member) (a585 : Int) (k : Nat) (a638 : Int) : spec_l6Fault.l2 x0 a585 (k + 1) a638 = (bif (decide (a638 < a585)) then (chk (idxOk a638 x0.length) (chk (idxOk a585 x0.length) (bif ((((gt x0 a638).fRef.fTx) == ((gt x0 a585).fRef.fTx)) && (((gt x0 a638).fRef.fAt) == ((gt x0 a585).fRef.fAt))) then some (.inl 7) else spec_l6Fault.l2 x0 a585 k (wrap64 (a638 + 1))))) else some (.inr ())) := rfl
def spec_l6Fault.l1 (x0 : List Member) : Nat → Int → Option (Int ⊕ Unit)
  | 0, _ => none
  | k + 1, a585 => (bif (decide (a585 < (x0.length : Int))) then ((spec_l6Fault.l2 x0 a585 k 0).bind fun o630 => thn o630 (fun r => some (.inl r)) (fun _ => spec_l6Fault.l1 x0 k (wrap64 (a585 + 1)))) else some (.inr ()))
theorem spec_l6Fault.l1_z (x0 : List Member) (a585 : Int) : spec_l6Fault.l1 x0 0 a585 = none := rfl
theorem spec_l6Fault.l1_s (x0 : List Member) (k : Nat) (a585 : Int) : spec_l6Fault.l1 x0 (k + 1) a585 = (bif (decide (a585 < (x0.length : Int))) then ((spec_l6Fault.l2 x0 a585 k 0).bind fun o630 => thn o630 (fun r => some (.inl r)) (fun _ => spec_l6Fault.l1 x0 k (wrap64 (a585 + 1)))) else some (.inr ())) := rfl
def spec_l6Fault.f (k : Nat) (x0 : List Member) : Option Int := (bif (decide (8 < (x0.length : Int))) then some 2 else ((spec_l6Fault.l0 x0 k 0).bind fun o408 => thn o408 (fun r => some r) (fun _ => ((spec_l6Fault.l1 x0 k 0).bind fun o561 => thn o561 (fun r => some r) (fun _ => some 0)))))
theorem spec_l6Fault.calls {k : Nat} {x0 : List Member} {p0 : Value} {w : World} (hp0 : RdS kMember w p0 x0) {r : Int} (H : spec_l6Fault.f k x0 = some r) :
    Calls Try.prog 109 ([p0] : List Value).toArray w (fun e w_ => ∃ v, e = .returned v ∧ v = (.int .i64 r) ∧ Mem w [] w_ []) := by
  have HM := Mem.start w
  refine calls_run (N := 69) Try.func109 rfl rfl rfl rfl ?_
  unfold spec_l6Fault.f at H
  refine run_seq ?_
  refine run_region rfl ?_
  refine ops_ex rfl (guard_none rfl) rfl rfl (ex_assign rfl rfl) ?_
  refine ops_nil ?_
  refine at_then ?_
  refine run_seq ?_
  refine run_seq ?_
  refine run_region rfl ?_
  refine ops_ex rfl (guard_none rfl) rfl rfl (ex_move rfl rfl) ?_
  refine ops_ex rfl (guard_none rfl) rfl rfl (ex_len (d := kMember) (xs := x0) rfl rfl Try.underlying49 hp0) ?_
  refine ops_ex rfl (guard_none rfl) rfl rfl (ex_gtr rfl rfl rfl) ?_
  refine ops_nil ?_
  refine at_then ?_
  refine run_cond (b := (decide (8 < (x0.length : Int)))) rfl (fun hb334 => ?_) (fun hb334 => ?_)
  · replace H := cond_t hb334 H
    refine run_seq ?_
    refine run_region rfl ?_
    refine ops_ex rfl (guard_none rfl) rfl rfl (ex_assign rfl rfl) ?_
    refine ops_nil ?_
    refine at_then ?_
    refine run_ret ?_
    refine at_then_ret ?_
    have hR := Option.some.inj H
    subst hR
    exact at_ret1 rfl rfl ⟨_, rfl, rfl, HM⟩
  · replace H := cond_f hb334 H
    refine run_skip ?_
    refine at_then ?_
    obtain ⟨o408, ho409, H⟩ := bind_some H
    refine run_mid (fun ρ_ w_ => Sum.inr () = o408 ∧ ρ_ = [(0, p0)] ∧ Mem w [] w_ []) ?_ ?_
    · skip
      refine run_seq ?_
      refine run_region rfl ?_
      refine ops_ex rfl (guard_none rfl) rfl rfl (ex_assign rfl rfl) ?_
      refine ops_nil ?_
      refine at_then ?_
      refine run_block ?_
      refine run_loop (fun k_ ρ_ w_ => ∃ a434 : Int, spec_l6Fault.l0 x0 k_ a434 = some o408 ∧ ρ_ = [(0, p0), (3, .int .i64 a434)] ∧ Mem w [] w_ []) k (ρ1 := [(0, p0), (3, .int .i64 0)]) ⟨_, ho409, rfl, HM⟩ (Sub.cons rfl (Sub.cons rfl Sub.nil)) ?_
      clear HM ho409
      rintro k459 _ w460 ⟨a434, ho409, rfl, HM⟩
      obtain _ | k459 := k459
      · exact nomatch ((spec_l6Fault.l0_z x0 a434).symm.trans ho409)
      replace ho409 := (spec_l6Fault.l0_s x0 k459 a434).symm.trans ho409
      refine run_seq ?_
      refine run_seq ?_
      refine run_region rfl ?_
      refine ops_ex rfl (guard_none rfl) rfl rfl (ex_move rfl rfl) ?_
      refine ops_ex rfl (guard_none rfl) rfl rfl (ex_move rfl rfl) ?_
      refine ops_ex rfl (guard_none rfl) rfl rfl (ex_len (d := kMember) (xs := x0) rfl rfl Try.underlying49 hp0) ?_
      refine ops_ex rfl (guard_none rfl) rfl rfl (ex_lss rfl rfl rfl) ?_
      refine ops_nil ?_
      refine at_then ?_
      refine run_cond (b := (decide (a434 < (x0.length : Int)))) rfl (fun hb461 => ?_) (fun hb461 => ?_)
      · replace ho409 := cond_t hb461 ho409
        refine run_skip ?_
        refine at_then ?_
        refine run_seq ?_
        refine run_block ?_
        refine run_seq ?_
        refine run_seq ?_
        obtain ⟨e471, ho409⟩ := chk_some ho409
        obtain ⟨t473, h474, ho409⟩ := bind_some ho409
        obtain ⟨e475, ho409⟩ := chk_some ho409
        obtain ⟨t477, h478, ho409⟩ := bind_some ho409
        refine run_meet (fun ρ_ w_ => ρ_ = [(0, p0), (3, .int .i64 a434), (30, .bool ((!t473) || (!t477)))] ∧ Mem w [] w_ []) ?_ ?_
        · skip
          refine run_region rfl ?_
          refine ops_ex rfl (guard_none rfl) rfl rfl (ex_move rfl rfl) ?_
          refine ops_ex rfl (guard_none rfl) rfl rfl (ex_move rfl rfl) ?_
          have hc472 : CellsAt _ (sb p0) (so p0 + (a434).toNat * 3) [(.int .i64 ((gt x0 a434).fKey)), (.int .i64 ((gt x0 a434).fRef.fTx)), (.int .i64 ((gt x0 a434).fRef.fAt))] := rd_plain hp0 e471
          refine ops_ex rfl (guard_none rfl) rfl rfl (ex_indexAddr (d := kMember) rfl rfl rfl Try.underlying49 tsz144 hp0 (idx_lo e471) (idx_hi e471)) ?_
          refine ops_ex rfl (guard_none rfl) rfl rfl (ex_fieldAddr (off' := so p0 + (a434).toNat * 3) rfl rfl Try.underlying144 rfl tsz2 rfl) ?_
          refine ops_ex rfl (guard_none rfl) rfl rfl (ex_load1 rfl rfl Try.underlying2 rfl ((HM.at_ hc472) 0 _ rfl)) ?_
          refine ops_does rfl (guard_none rfl) rfl rfl (does_callk rfl callok137 rfl (spec_l1Key.calls (x0 := (gt x0 a434).fKey) h474)) ?_
          rintro _ w479 ⟨rfl, hn⟩
          replace HM : Mem w [] w479 [] := HM.call hn
          refine ops_ex rfl (guard_none rfl) rfl rfl (ex_not rfl rfl) ?_
          refine ops_ex rfl (guard_none rfl) rfl rfl (ex_move rfl rfl) ?_
          refine bool_cases (!t473) (fun hg480 => ?_) (fun hg480 => ?_)
          · skip
            refine ops_off rfl (guard_off rfl rfl rfl hg480) rfl rfl ?_
            refine ops_off rfl (guard_off rfl rfl rfl hg480) rfl rfl ?_
            refine ops_off rfl (guard_off rfl rfl rfl hg480) rfl rfl ?_
            refine ops_off rfl (guard_off rfl rfl rfl hg480) rfl rfl ?_
            refine ops_off rfl (guard_off rfl rfl rfl hg480) rfl rfl ?_
            refine ops_off rfl (guard_off rfl rfl rfl hg480) rfl rfl ?_
            refine ops_off rfl (guard_off rfl rfl rfl hg480) rfl rfl ?_
            have hg481 : ((!t473) || (!t477)) = true := by simp only [hg480, Bool.and_true, Bool.true_and, Bool.and_false, Bool.false_and, Bool.or_true, Bool.true_or, Bool.or_false, Bool.false_or, Bool.not_true, Bool.not_false, Bool.not_not]
            refine ops_ex (v := .bool ((!t473) || (!t477))) rfl (guard_none rfl) rfl rfl (ex_por_t rfl rfl hg480) ?_
            refine ops_nil ?_
            exact at_meet [(0, p0), (3, .int .i64 a434), (30, .bool ((!t473) || (!t477)))] ⟨rfl, HM⟩ (Sub.cons rfl (Sub.cons rfl (Sub.cons rfl Sub.nil)))
          · skip
            refine ops_ex rfl (guard_on rfl rfl rfl hg480) rfl rfl (ex_move rfl rfl) ?_
            refine ops_ex rfl (guard_on rfl rfl rfl hg480) rfl rfl (ex_move rfl rfl) ?_
            have hc476 : CellsAt _ (sb p0) (so p0 + (a434).toNat * 3) [(.int .i64 ((gt x0 a434).fKey)), (.int .i64 ((gt x0 a434).fRef.fTx)), (.int .i64 ((gt x0 a434).fRef.fAt))] := rd_plain hp0 (or_t e475 (not_mk hg480))
            refine ops_ex rfl (guard_on rfl rfl rfl hg480) rfl rfl (ex_indexAddr (d := kMember) rfl rfl rfl Try.underlying49 tsz144 hp0 (idx_lo (or_t e475 (not_mk hg480))) (idx_hi (or_t e475 (not_mk hg480)))) ?_
            refine ops_ex rfl (guard_on rfl rfl rfl hg480) rfl rfl (ex_fieldAddr (off' := so p0 + (a434).toNat * 3 + 1) rfl rfl Try.underlying144 rfl tsz99 rfl) ?_
            refine ops_ex rfl (guard_on rfl rfl rfl hg480) rfl rfl (ex_loadN (cs := [(.int .i64 ((gt x0 a434).fRef.fTx)), (.int .i64 ((gt x0 a434).fRef.fAt))]) rfl rfl Try.underlying99 rfl tsz99 rfl ((HM.at_ hc476).sub 1 2 rfl)) ?_
            refine ops_does rfl (guard_on rfl rfl rfl hg480) rfl rfl (does_callk rfl callok127 rfl (spec_l3Ref.calls (x0 := (gt x0 a434).fRef) (cond_t (not_mk hg480) h478))) ?_
            rintro _ w482 ⟨rfl, hn⟩
            replace HM : Mem w [] w482 [] := HM.call hn
            refine ops_ex rfl (guard_on rfl rfl rfl hg480) rfl rfl (ex_not rfl rfl) ?_
            refine ops_ex (v := .bool ((!t473) || (!t477))) rfl (guard_none rfl) rfl rfl (ex_por_f rfl rfl hg480 rfl) ?_
            refine ops_nil ?_
            exact at_meet [(0, p0), (3, .int .i64 a434), (30, .bool ((!t473) || (!t477)))] ⟨rfl, HM⟩ (Sub.cons rfl (Sub.cons rfl (Sub.cons rfl Sub.nil)))
        · rintro _ w483 ⟨rfl, HM⟩
          refine at_then ?_
          refine run_cond (b := ((!t473) || (!t477))) rfl (fun hb484 => ?_) (fun hb484 => ?_)
          · replace ho409 := cond_t hb484 ho409
            refine run_seq ?_
            refine run_region rfl ?_
            refine ops_ex rfl (guard_none rfl) rfl rfl (ex_assign rfl rfl) ?_
            refine ops_nil ?_
            refine at_then ?_
            refine run_ret ?_
            refine at_then_ret ?_
            refine at_block_ret ?_
            refine at_then_ret ?_
            refine at_then_ret ?_
            refine at_block_ret ?_
            refine at_then_ret ?_
            have hR := Option.some.inj ho409
            subst hR
            have hT := thn_inl H
            have hR := Option.some.inj hT
            subst hR
            exact at_ret1 rfl rfl ⟨_, rfl, rfl, HM⟩
          · replace ho409 := cond_f hb484 ho409
            refine run_skip ?_
            refine at_then ?_
            refine run_seq ?_
            obtain ⟨e485, ho409⟩ := chk_some ho409
            obtain ⟨e487, ho409⟩ := chk_some ho409
            refine run_meet (fun ρ_ w_ => ρ_ = [(0, p0), (3, .int .i64 a434), (46, .bool ((decide (0 < a434)) && (decide (((gt x0 a434).fKey) ≤ ((gt x0 (wrap64 (a434 - 1))).fKey)))))] ∧ Mem w [] w_ []) ?_ ?_
            · skip
              refine run_drawf (fun w_ => Mem w [] w_ []) [(0, true), (1, true), (2, true), (3, true), (4, true), (5, true), (6, true), (7, true), (8, true), (9, true), (10, true), (11, true), (12, true), (13, true), (14, true), (15, true)] mixed rfl rfl (by kernel_rfl) ?_
              replace HM := HM.grow (fr_drew _)
              have hS := Mem.suf (M := []) HM
              refine drwp_take rfl (guard_none rfl) rfl rfl (fun w_ hS_ => (ex_move rfl rfl)) hS ?_
              refine drwp_take rfl (guard_none rfl) rfl rfl (fun w_ hS_ => (ex_gtr rfl rfl rfl)) hS ?_
              refine drwp_take rfl (guard_none rfl) rfl rfl (fun w_ hS_ => (ex_move rfl rfl)) hS ?_
              refine bool_cases (decide (0 < a434)) (fun hg489 => ?_) (fun hg489 => ?_)
              · skip
                refine drwp_take rfl (guard_on rfl rfl rfl hg489) rfl rfl (fun w_ hS_ => (ex_move rfl rfl)) hS ?_
                refine drwp_take rfl (guard_on rfl rfl rfl hg489) rfl rfl (fun w_ hS_ => (ex_move rfl rfl)) hS ?_
                have hc486 : CellsAt _ (sb p0) (so p0 + (a434).toNat * 3) [(.int .i64 ((gt x0 a434).fKey)), (.int .i64 ((gt x0 a434).fRef.fTx)), (.int .i64 ((gt x0 a434).fRef.fAt))] := rd_plain hp0 (or_t e485 hg489)
                refine drwp_take rfl (guard_on rfl rfl rfl hg489) rfl rfl (fun w_ hS_ => (ex_indexAddr (d := kMember) rfl rfl rfl Try.underlying49 tsz144 hp0 (idx_lo (or_t e485 hg489)) (idx_hi (or_t e485 hg489)))) hS ?_
                refine drwp_take rfl (guard_on rfl rfl rfl hg489) rfl rfl (fun w_ hS_ => (ex_fieldAddr (off' := so p0 + (a434).toNat * 3) rfl rfl Try.underlying144 rfl tsz2 rfl)) hS ?_
                refine drwp_take rfl (guard_on rfl rfl rfl hg489) rfl rfl (fun w_ hS_ => (ex_load1 rfl rfl Try.underlying2 rfl ((hS_.at_ hc486) 0 _ rfl))) hS ?_
                refine drwp_take rfl (guard_on rfl rfl rfl hg489) rfl rfl (fun w_ hS_ => (ex_move rfl rfl)) hS ?_
                refine drwp_take rfl (guard_on rfl rfl rfl hg489) rfl rfl (fun w_ hS_ => (ex_move rfl rfl)) hS ?_
                refine drwp_take rfl (guard_on rfl rfl rfl hg489) rfl rfl (fun w_ hS_ => (ex_sub rfl rfl rfl)) hS ?_
                have hc488 : CellsAt _ (sb p0) (so p0 + (wrap64 (a434 - 1)).toNat * 3) [(.int .i64 ((gt x0 (wrap64 (a434 - 1))).fKey)), (.int .i64 ((gt x0 (wrap64 (a434 - 1))).fRef.fTx)), (.int .i64 ((gt x0 (wrap64 (a434 - 1))).fRef.fAt))] := rd_plain hp0 (or_t e487 hg489)
                refine drwp_take rfl (guard_on rfl rfl rfl hg489) rfl rfl (fun w_ hS_ => (ex_indexAddr (d := kMember) rfl rfl rfl Try.underlying49 tsz144 hp0 (idx_lo (or_t e487 hg489)) (idx_hi (or_t e487 hg489)))) hS ?_
                refine drwp_take rfl (guard_on rfl rfl rfl hg489) rfl rfl (fun w_ hS_ => (ex_fieldAddr (off' := so p0 + (wrap64 (a434 - 1)).toNat * 3) rfl rfl Try.underlying144 rfl tsz2 rfl)) hS ?_
                refine drwp_take rfl (guard_on rfl rfl rfl hg489) rfl rfl (fun w_ hS_ => (ex_load1 rfl rfl Try.underlying2 rfl ((hS_.at_ hc488) 0 _ rfl))) hS ?_
                refine drwp_take rfl (guard_on rfl rfl rfl hg489) rfl rfl (fun w_ hS_ => (ex_leq rfl rfl rfl)) hS ?_
                refine drwp_take (v := .bool ((decide (0 < a434)) && (decide (((gt x0 a434).fKey) ≤ ((gt x0 (wrap64 (a434 - 1))).fKey))))) rfl (guard_none rfl) rfl rfl (fun w_ hS_ => (ex_pand_t rfl rfl hg489 rfl)) hS ?_
                refine drwp_done ?_
                exact at_meet [(0, p0), (3, .int .i64 a434), (46, .bool ((decide (0 < a434)) && (decide (((gt x0 a434).fKey) ≤ ((gt x0 (wrap64 (a434 - 1))).fKey)))))] ⟨rfl, HM⟩ (Sub.cons rfl (Sub.cons rfl (Sub.cons rfl Sub.nil)))
              · skip
                refine drwp_off rfl (guard_off rfl rfl rfl hg489) rfl rfl hS ?_
                refine drwp_off rfl (guard_off rfl rfl rfl hg489) rfl rfl hS ?_
                refine drwp_off rfl (guard_off rfl rfl rfl hg489) rfl rfl hS ?_
                refine drwp_off rfl (guard_off rfl rfl rfl hg489) rfl rfl hS ?_
                refine drwp_off rfl (guard_off rfl rfl rfl hg489) rfl rfl hS ?_
                refine drwp_off rfl (guard_off rfl rfl rfl hg489) rfl rfl hS ?_
                refine drwp_off rfl (guard_off rfl rfl rfl hg489) rfl rfl hS ?_
                refine drwp_off rfl (guard_off rfl rfl rfl hg489) rfl rfl hS ?_
                refine drwp_off rfl (guard_off rfl rfl rfl hg489) rfl rfl hS ?_
                refine drwp_off rfl (guard_off rfl rfl rfl hg489) rfl rfl hS ?_
                refine drwp_off rfl (guard_off rfl rfl rfl hg489) rfl rfl hS ?_
                refine drwp_off rfl (guard_off rfl rfl rfl hg489) rfl rfl hS ?_
                have hg490 : ((decide (0 < a434)) && (decide (((gt x0 a434).fKey) ≤ ((gt x0 (wrap64 (a434 - 1))).fKey)))) = false := by simp only [hg489, Bool.and_true, Bool.true_and, Bool.and_false, Bool.false_and, Bool.or_true, Bool.true_or, Bool.or_false, Bool.false_or, Bool.not_true, Bool.not_false, Bool.not_not]
                refine drwp_take (v := .bool ((decide (0 < a434)) && (decide (((gt x0 a434).fKey) ≤ ((gt x0 (wrap64 (a434 - 1))).fKey))))) rfl (guard_none rfl) rfl rfl (fun w_ hS_ => (ex_pand_f rfl rfl hg489)) hS ?_
                refine drwp_done ?_
                exact at_meet [(0, p0), (3, .int .i64 a434), (46, .bool ((decide (0 < a434)) && (decide (((gt x0 a434).fKey) ≤ ((gt x0 (wrap64 (a434 - 1))).fKey)))))] ⟨rfl, HM⟩ (Sub.cons rfl (Sub.cons rfl (Sub.cons rfl Sub.nil)))
            · rintro _ w491 ⟨rfl, HM⟩
              refine at_then ?_
              refine run_cond (b := ((decide (0 < a434)) && (decide (((gt x0 a434).fKey) ≤ ((gt x0 (wrap64 (a434 - 1))).fKey))))) rfl (fun hb492 => ?_) (fun hb492 => ?_)
              · replace ho409 := cond_t hb492 ho409
                refine run_seq ?_
                refine run_region rfl ?_
                refine ops_ex rfl (guard_none rfl) rfl rfl (ex_assign rfl rfl) ?_
                refine ops_nil ?_
                refine at_then ?_
                refine run_ret ?_
                refine at_block_ret ?_
                refine at_then_ret ?_
                refine at_then_ret ?_
                refine at_block_ret ?_
                refine at_then_ret ?_
                have hR := Option.some.inj ho409
                subst hR
                have hT := thn_inl H
                have hR := Option.some.inj hT
                subst hR
                exact at_ret1 rfl rfl ⟨_, rfl, rfl, HM⟩
              · replace ho409 := cond_f hb492 ho409
                refine run_skip ?_
                refine at_block ?_
                refine at_then ?_
                refine run_region rfl ?_
                refine ops_ex rfl (guard_none rfl) rfl rfl (ex_move rfl rfl) ?_
                refine ops_ex rfl (guard_none rfl) rfl rfl (ex_add rfl rfl rfl) ?_
                refine ops_ex rfl (guard_none rfl) rfl rfl (ex_assign rfl rfl) ?_
                refine ops_nil ?_
                exact at_again k459 (ρ1 := [(0, p0), (3, .int .i64 (wrap64 (a434 + 1)))]) (Nat.lt_succ_self _) ⟨_, ho409, rfl, HM⟩ (Sub.cons rfl (Sub.cons rfl Sub.nil))
      · replace ho409 := cond_f hb461 ho409
        refine run_exit ?_
        refine at_then_exit ?_
        refine at_then_exit ?_
        refine at_block_exit ?_
        exact at_mid (ρ' := [(0, p0)]) ⟨(Option.some.inj ho409), rfl, HM⟩ (Sub.cons rfl Sub.nil)
    · rintro _ w493 ⟨rfl, rfl, HM⟩
      replace H := (thn_inr H)
      obtain ⟨o561, ho562, H⟩ := bind_some H
      refine run_mid (fun ρ_ w_ => Sum.inr () = o561 ∧ ρ_ = [] ∧ Mem w [] w_ []) ?_ ?_
      · skip
        refine run_seq ?_
        refine run_region rfl ?_
        refine ops_ex rfl (guard_none rfl) rfl rfl (ex_assign rfl rfl) ?_
        refine ops_nil ?_
        refine at_then ?_
        refine run_block ?_
        refine run_loop (fun k_ ρ_ w_ => ∃ a585 : Int, spec_l6Fault.l1 x0 k_ a585 = some o561 ∧ ρ_ = [(0, p0), (4, .int .i64 a585)] ∧ Mem w [] w_ []) k (ρ1 := [(0, p0), (4, .int .i64 0)]) ⟨_, ho562, rfl, HM⟩ (Sub.cons rfl (Sub.cons rfl Sub.nil)) ?_
        clear HM ho562
        rintro k608 _ w609 ⟨a585, ho562, rfl, HM⟩
        obtain _ | k608 := k608
        · exact nomatch ((spec_l6Fault.l1_z x0 a585).symm.trans ho562)
        replace ho562 := (spec_l6Fault.l1_s x0 k608 a585).symm.trans ho562
        refine run_seq ?_
        refine run_seq ?_
        refine run_region rfl ?_
        refine ops_ex rfl (guard_none rfl) rfl rfl (ex_move rfl rfl) ?_
        refine ops_ex rfl (guard_none rfl) rfl rfl (ex_move rfl rfl) ?_
        refine ops_ex rfl (guard_none rfl) rfl rfl (ex_len (d := kMember) (xs := x0) rfl rfl Try.underlying49 hp0) ?_
        refine ops_ex rfl (guard_none rfl) rfl rfl (ex_lss rfl rfl rfl) ?_
        refine ops_nil ?_
        refine at_then ?_
        refine run_cond (b := (decide (a585 < (x0.length : Int)))) rfl (fun hb610 => ?_) (fun hb610 => ?_)
        · replace ho562 := cond_t hb610 ho562
          refine run_skip ?_
          refine at_then ?_
          obtain ⟨o630, ho631, ho562⟩ := bind_some ho562
          refine run_mid (fun ρ_ w_ => Sum.inr () = o630 ∧ ρ_ = [(0, p0), (4, .int .i64 a585)] ∧ Mem w [] w_ []) ?_ ?_
          · skip
            refine run_block ?_
            refine run_seq ?_
            refine run_region rfl ?_
            refine ops_ex rfl (guard_none rfl) rfl rfl (ex_assign rfl rfl) ?_
            refine ops_nil ?_
            refine at_then ?_
            refine run_block ?_
            refine run_loop (fun k_ ρ_ w_ => ∃ a638 : Int, spec_l6Fault.l2 x0 a585 k_ a638 = some o630 ∧ ρ_ = [(0, p0), (4, .int .i64 a585), (5, .int .i64 a638)] ∧ Mem w [] w_ []) k608 (ρ1 := [(0, p0), (4, .int .i64 a585), (5, .int .i64 0)]) ⟨_, ho631, rfl, HM⟩ (Sub.cons rfl (Sub.cons rfl (Sub.cons rfl Sub.nil))) ?_
            clear HM ho631
            rintro k645 _ w646 ⟨a638, ho631, rfl, HM⟩
            obtain _ | k645 := k645
            · exact nomatch ((spec_l6Fault.l2_z x0 a585 a638).symm.trans ho631)
            replace ho631 := (spec_l6Fault.l2_s x0 a585 k645 a638).symm.trans ho631
            refine run_seq ?_
            refine run_seq ?_
            refine run_region rfl ?_
            refine ops_ex rfl (guard_none rfl) rfl rfl (ex_move rfl rfl) ?_
            refine ops_ex rfl (guard_none rfl) rfl rfl (ex_move rfl rfl) ?_
            refine ops_ex rfl (guard_none rfl) rfl rfl (ex_lss rfl rfl rfl) ?_
            refine ops_nil ?_
            refine at_then ?_
            refine run_cond (b := (decide (a638 < a585))) rfl (fun hb647 => ?_) (fun hb647 => ?_)
            · replace ho631 := cond_t hb647 ho631
              refine run_skip ?_
              refine at_then ?_
              refine run_seq ?_
              refine run_block ?_
              refine run_seq ?_
              obtain ⟨e648, ho631⟩ := chk_some ho631
              obtain ⟨e650, ho631⟩ := chk_some ho631
              refine run_drawf (fun w_ => Mem w [] w_ []) [(0, true), (1, true), (2, true), (3, true), (4, true), (5, true), (6, true), (7, true), (8, true), (9, true), (10, true)] mixed rfl rfl (by kernel_rfl) ?_
              replace HM := HM.grow (fr_drew _)
              have hS := Mem.suf (M := []) HM
              refine drwp_take rfl (guard_none rfl) rfl rfl (fun w_ hS_ => (ex_move rfl rfl)) hS ?_
              refine drwp_take rfl (guard_none rfl) rfl rfl (fun w_ hS_ => (ex_move rfl rfl)) hS ?_
              have hc649 : CellsAt _ (sb p0) (so p0 + (a638).toNat * 3) [(.int .i64 ((gt x0 a638).fKey)), (.int .i64 ((gt x0 a638).fRef.fTx)), (.int .i64 ((gt x0 a638).fRef.fAt))] := rd_plain hp0 e648
              refine drwp_take rfl (guard_none rfl) rfl rfl (fun w_ hS_ => (ex_indexAddr (d := kMember) rfl rfl rfl Try.underlying49 tsz144 hp0 (idx_lo e648) (idx_hi e648))) hS ?_
              refine drwp_take rfl (guard_none rfl) rfl rfl (fun w_ hS_ => (ex_fieldAddr (off' := so p0 + (a638).toNat * 3 + 1) rfl rfl Try.underlying144 rfl tsz99 rfl)) hS ?_
              refine drwp_take rfl (guard_none rfl) rfl rfl (fun w_ hS_ => (ex_loadN (cs := [(.int .i64 ((gt x0 a638).fRef.fTx)), (.int .i64 ((gt x0 a638).fRef.fAt))]) rfl rfl Try.underlying99 rfl tsz99 rfl ((hS_.at_ hc649).sub 1 2 rfl))) hS ?_
              refine drwp_take rfl (guard_none rfl) rfl rfl (fun w_ hS_ => (ex_move rfl rfl)) hS ?_
              refine drwp_take rfl (guard_none rfl) rfl rfl (fun w_ hS_ => (ex_move rfl rfl)) hS ?_
              have hc651 : CellsAt _ (sb p0) (so p0 + (a585).toNat * 3) [(.int .i64 ((gt x0 a585).fKey)), (.int .i64 ((gt x0 a585).fRef.fTx)), (.int .i64 ((gt x0 a585).fRef.fAt))] := rd_plain hp0 e650
              refine drwp_take rfl (guard_none rfl) rfl rfl (fun w_ hS_ => (ex_indexAddr (d := kMember) rfl rfl rfl Try.underlying49 tsz144 hp0 (idx_lo e650) (idx_hi e650))) hS ?_
              refine drwp_take rfl (guard_none rfl) rfl rfl (fun w_ hS_ => (ex_fieldAddr (off' := so p0 + (a585).toNat * 3 + 1) rfl rfl Try.underlying144 rfl tsz99 rfl)) hS ?_
              refine drwp_take rfl (guard_none rfl) rfl rfl (fun w_ hS_ => (ex_loadN (cs := [(.int .i64 ((gt x0 a585).fRef.fTx)), (.int .i64 ((gt x0 a585).fRef.fAt))]) rfl rfl Try.underlying99 rfl tsz99 rfl ((hS_.at_ hc651).sub 1 2 rfl))) hS ?_
              refine drwp_take rfl (guard_none rfl) rfl rfl (fun w_ hS_ => (ex_aeql rfl rfl rfl (by kernel_rfl) (eqs99 _ _ _ _ _))) hS ?_
              refine drwp_done ?_
              refine at_then ?_
              refine run_cond (b := ((((gt x0 a638).fRef.fTx) == ((gt x0 a585).fRef.fTx)) && (((gt x0 a638).fRef.fAt) == ((gt x0 a585).fRef.fAt)))) rfl (fun hb652 => ?_) (fun hb652 => ?_)
              · replace ho631 := cond_t hb652 ho631
                refine run_seq ?_
                refine run_region rfl ?_
                refine ops_ex rfl (guard_none rfl) rfl rfl (ex_assign rfl rfl) ?_
                refine ops_nil ?_
                refine at_then ?_
                refine run_ret ?_
                refine at_block_ret ?_
                refine at_then_ret ?_
                refine at_then_ret ?_
                refine at_block_ret ?_
                refine at_block_ret ?_
                refine at_then_ret ?_
                refine at_then_ret ?_
                refine at_block_ret ?_
                refine at_then_ret ?_
                have hR := Option.some.inj ho631
                subst hR
                have hT := thn_inl ho562
                have hR := Option.some.inj hT
                subst hR
                have hT := thn_inl H
                have hR := Option.some.inj hT
                subst hR
                exact at_ret1 rfl rfl ⟨_, rfl, rfl, HM⟩
              · replace ho631 := cond_f hb652 ho631
                refine run_skip ?_
                refine at_block ?_
                refine at_then ?_
                refine run_region rfl ?_
                refine ops_ex rfl (guard_none rfl) rfl rfl (ex_move rfl rfl) ?_
                refine ops_ex rfl (guard_none rfl) rfl rfl (ex_add rfl rfl rfl) ?_
                refine ops_ex rfl (guard_none rfl) rfl rfl (ex_assign rfl rfl) ?_
                refine ops_nil ?_
                exact at_again k645 (ρ1 := [(0, p0), (4, .int .i64 a585), (5, .int .i64 (wrap64 (a638 + 1)))]) (Nat.lt_succ_self _) ⟨_, ho631, rfl, HM⟩ (Sub.cons rfl (Sub.cons rfl (Sub.cons rfl Sub.nil)))
            · replace ho631 := cond_f hb647 ho631
              refine run_exit ?_
              refine at_then_exit ?_
              refine at_then_exit ?_
              refine at_block_exit ?_
              refine at_block ?_
              exact at_mid (ρ' := [(0, p0), (4, .int .i64 a585)]) ⟨(Option.some.inj ho631), rfl, HM⟩ (Sub.cons rfl (Sub.cons rfl Sub.nil))
          · rintro _ w653 ⟨rfl, rfl, HM⟩
            replace ho562 := (thn_inr ho562)
            refine run_region rfl ?_
            refine ops_ex rfl (guard_none rfl) rfl rfl (ex_move rfl rfl) ?_
            refine ops_ex rfl (guard_none rfl) rfl rfl (ex_add rfl rfl rfl) ?_
            refine ops_ex rfl (guard_none rfl) rfl rfl (ex_assign rfl rfl) ?_
            refine ops_nil ?_
            exact at_again k608 (ρ1 := [(0, p0), (4, .int .i64 (wrap64 (a585 + 1)))]) (Nat.lt_succ_self _) ⟨_, ho562, rfl, HM⟩ (Sub.cons rfl (Sub.cons rfl Sub.nil))
        · replace ho562 := cond_f hb610 ho562
          refine run_exit ?_
          refine at_then_exit ?_
          refine at_then_exit ?_
          refine at_block_exit ?_
          exact at_mid (ρ' := []) ⟨(Option.some.inj ho562), rfl, HM⟩ Sub.nil
      · rintro _ w654 ⟨rfl, rfl, HM⟩
        replace H := (thn_inr H)
        refine run_seq ?_
        refine run_region rfl ?_
        refine ops_ex rfl (guard_none rfl) rfl rfl (ex_assign rfl rfl) ?_
        refine ops_nil ?_
        refine at_then ?_
        refine run_ret ?_
        have hR := Option.some.inj H
        subst hR
        exact at_ret1 rfl rfl ⟨_, rfl, rfl, HM⟩

def spec_l6At.l0 (x0 : List Member) (x1 : Int) : Nat → Int → Option (Int ⊕ Unit)
  | 0, _ => none
  | k + 1, a695 => (bif (decide (a695 < (x0.length : Int))) then (chk (idxOk a695 x0.length) (bif (((gt x0 a695).fKey) == x1) then some (.inl a695) else spec_l6At.l0 x0 x1 k (wrap64 (a695 + 1)))) else some (.inr ()))
theorem spec_l6At.l0_z (x0 : List Member) (x1 : Int) (a695 : Int) : spec_l6At.l0 x0 x1 0 a695 = none := rfl
theorem spec_l6At.l0_s (x0 : List Member) (x1 : Int) (k : Nat) (a695 : Int) : spec_l6At.l0 x0 x1 (k + 1) a695 = (bif (decide (a695 < (x0.length : Int))) then (chk (idxOk a695 x0.length) (bif (((gt x0 a695).fKey) == x1) then some (.inl a695) else spec_l6At.l0 x0 x1 k (wrap64 (a695 + 1)))) else some (.inr ())) := rfl
def spec_l6At.f (k : Nat) (x0 : List Member) (x1 : Int) : Option Int := ((spec_l6At.l0 x0 x1 k 0).bind fun o689 => thn o689 (fun r => some r) (fun _ => some (-1)))
theorem spec_l6At.calls {k : Nat} {x0 : List Member} {x1 : Int} {p0 : Value} {w : World} (hp0 : RdS kMember w p0 x0) {r : Int} (H : spec_l6At.f k x0 x1 = some r) :
    Calls Try.prog 117 ([p0, .int .i64 x1] : List Value).toArray w (fun e w_ => ∃ v, e = .returned v ∧ v = (.int .i64 r) ∧ Mem w [] w_ []) := by
  have HM := Mem.start w
  refine calls_run (N := 20) Try.func117 rfl rfl rfl rfl ?_
  unfold spec_l6At.f at H
  refine run_seq ?_
  refine run_region rfl ?_
  refine ops_ex rfl (guard_none rfl) rfl rfl (ex_assign rfl rfl) ?_
  refine ops_nil ?_
  refine at_then ?_
  obtain ⟨o689, ho690, H⟩ := bind_some H
  refine run_mid (fun ρ_ w_ => Sum.inr () = o689 ∧ ρ_ = [] ∧ Mem w [] w_ []) ?_ ?_
  · skip
    refine run_seq ?_
    refine run_region rfl ?_
    refine ops_ex rfl (guard_none rfl) rfl rfl (ex_assign rfl rfl) ?_
    refine ops_nil ?_
    refine at_then ?_
    refine run_block ?_
    refine run_loop (fun k_ ρ_ w_ => ∃ a695 : Int, spec_l6At.l0 x0 x1 k_ a695 = some o689 ∧ ρ_ = [(0, p0), (1, .int .i64 x1), (5, .int .i64 a695)] ∧ Mem w [] w_ []) k (ρ1 := [(0, p0), (1, .int .i64 x1), (5, .int .i64 0)]) ⟨_, ho690, rfl, HM⟩ (Sub.cons rfl (Sub.cons rfl (Sub.cons rfl Sub.nil))) ?_
    clear HM ho690
    rintro k700 _ w701 ⟨a695, ho690, rfl, HM⟩
    obtain _ | k700 := k700
    · exact nomatch ((spec_l6At.l0_z x0 x1 a695).symm.trans ho690)
    replace ho690 := (spec_l6At.l0_s x0 x1 k700 a695).symm.trans ho690
    refine run_seq ?_
    refine run_seq ?_
    refine run_region rfl ?_
    refine ops_ex rfl (guard_none rfl) rfl rfl (ex_move rfl rfl) ?_
    refine ops_ex rfl (guard_none rfl) rfl rfl (ex_move rfl rfl) ?_
    refine ops_ex rfl (guard_none rfl) rfl rfl (ex_len (d := kMember) (xs := x0) rfl rfl Try.underlying49 hp0) ?_
    refine ops_ex rfl (guard_none rfl) rfl rfl (ex_lss rfl rfl rfl) ?_
    refine ops_nil ?_
    refine at_then ?_
    refine run_cond (b := (decide (a695 < (x0.length : Int)))) rfl (fun hb702 => ?_) (fun hb702 => ?_)
    · replace ho690 := cond_t hb702 ho690
      refine run_skip ?_
      refine at_then ?_
      refine run_seq ?_
      refine run_block ?_
      refine run_seq ?_
      obtain ⟨e703, ho690⟩ := chk_some ho690
      refine run_region rfl ?_
      refine ops_ex rfl (guard_none rfl) rfl rfl (ex_move rfl rfl) ?_
      refine ops_ex rfl (guard_none rfl) rfl rfl (ex_move rfl rfl) ?_
      have hc704 : CellsAt _ (sb p0) (so p0 + (a695).toNat * 3) [(.int .i64 ((gt x0 a695).fKey)), (.int .i64 ((gt x0 a695).fRef.fTx)), (.int .i64 ((gt x0 a695).fRef.fAt))] := rd_plain hp0 e703
      refine ops_ex rfl (guard_none rfl) rfl rfl (ex_indexAddr (d := kMember) rfl rfl rfl Try.underlying49 tsz144 hp0 (idx_lo e703) (idx_hi e703)) ?_
      refine ops_ex rfl (guard_none rfl) rfl rfl (ex_fieldAddr (off' := so p0 + (a695).toNat * 3) rfl rfl Try.underlying144 rfl tsz2 rfl) ?_
      refine ops_ex rfl (guard_none rfl) rfl rfl (ex_load1 rfl rfl Try.underlying2 rfl ((HM.at_ hc704) 0 _ rfl)) ?_
      refine ops_ex rfl (guard_none rfl) rfl rfl (ex_move rfl rfl) ?_
      refine ops_ex rfl (guard_none rfl) rfl rfl (ex_eql rfl rfl rfl) ?_
      refine ops_nil ?_
      refine at_then ?_
      refine run_cond (b := (((gt x0 a695).fKey) == x1)) rfl (fun hb705 => ?_) (fun hb705 => ?_)
      · replace ho690 := cond_t hb705 ho690
        refine run_seq ?_
        refine run_region rfl ?_
        refine ops_ex rfl (guard_none rfl) rfl rfl (ex_move rfl rfl) ?_
        refine ops_ex rfl (guard_none rfl) rfl rfl (ex_assign rfl rfl) ?_
        refine ops_nil ?_
        refine at_then ?_
        refine run_ret ?_
        refine at_block_ret ?_
        refine at_then_ret ?_
        refine at_then_ret ?_
        refine at_block_ret ?_
        refine at_then_ret ?_
        have hR := Option.some.inj ho690
        subst hR
        have hT := thn_inl H
        have hR := Option.some.inj hT
        subst hR
        exact at_ret1 rfl rfl ⟨_, rfl, rfl, HM⟩
      · replace ho690 := cond_f hb705 ho690
        refine run_skip ?_
        refine at_block ?_
        refine at_then ?_
        refine run_region rfl ?_
        refine ops_ex rfl (guard_none rfl) rfl rfl (ex_move rfl rfl) ?_
        refine ops_ex rfl (guard_none rfl) rfl rfl (ex_add rfl rfl rfl) ?_
        refine ops_ex rfl (guard_none rfl) rfl rfl (ex_assign rfl rfl) ?_
        refine ops_nil ?_
        exact at_again k700 (ρ1 := [(0, p0), (1, .int .i64 x1), (5, .int .i64 (wrap64 (a695 + 1)))]) (Nat.lt_succ_self _) ⟨_, ho690, rfl, HM⟩ (Sub.cons rfl (Sub.cons rfl (Sub.cons rfl Sub.nil)))
    · replace ho690 := cond_f hb702 ho690
      refine run_exit ?_
      refine at_then_exit ?_
      refine at_then_exit ?_
      refine at_block_exit ?_
      exact at_mid (ρ' := []) ⟨(Option.some.inj ho690), rfl, HM⟩ Sub.nil
  · rintro _ w706 ⟨rfl, rfl, HM⟩
    replace H := (thn_inr H)
    refine run_seq ?_
    refine run_region rfl ?_
    refine ops_ex rfl (guard_none rfl) rfl rfl (ex_assign rfl rfl) ?_
    refine ops_nil ?_
    refine at_then ?_
    refine run_ret ?_
    have hR := Option.some.inj H
    subst hR
    exact at_ret1 rfl rfl ⟨_, rfl, rfl, HM⟩

def spec_MemberOf.f (k : Nat) (x0 : List Member) (x1 : Int) : Option MembersResult := ((spec_l6Fault.f k x0).bind fun t723 => (bif (t723 != 0) then some (⟨t723, ([] : List Member)⟩ : MembersResult) else ((spec_l6At.f k x0 x1).bind fun t729 => (bif (decide (t729 < 0)) then some (⟨4, ([] : List Member)⟩ : MembersResult) else (chk (idxOk t729 x0.length) (some (⟨0, ([(gt x0 t729)] : List Member)⟩ : MembersResult)))))))
theorem spec_MemberOf.calls {k : Nat} {x0 : List Member} {x1 : Int} {p0 : Value} {w : World} (hp0 : RdS kMember w p0 x0) {r : MembersResult} (H : spec_MemberOf.f k x0 x1 = some r) :
    Calls Try.prog 57 ([p0, .int .i64 x1] : List Value).toArray w (fun e w_ => ∃ v, e = .returned v ∧ ∃ u0 : Value, v = (.agg #[.int .i64 r.fCode, u0]) ∧ Mem w [] w_ [own kMember 144 u0 r.fMembers]) := by
  have HM := Mem.start w
  refine calls_run (N := 25) Try.func57 rfl rfl rfl rfl ?_
  unfold spec_MemberOf.f at H
  refine run_seq ?_
  refine run_region rfl ?_
  refine ops_does rfl (guard_none rfl) rfl rfl (does_alloc (cs := [.int .i64 0, .slice none 0 0]) rfl tz85 rfl HM) ?_
  rintro _ w719 ⟨b716, rfl, HM⟩
  refine ops_nil ?_
  refine at_then ?_
  refine run_seq ?_
  refine run_seq ?_
  obtain ⟨t723, h724, H⟩ := bind_some H
  refine run_region rfl ?_
  refine ops_ex rfl (guard_none rfl) rfl rfl (ex_move rfl rfl) ?_
  refine ops_does rfl (guard_none rfl) rfl rfl (does_callk rfl callok109 rfl (spec_l6Fault.calls (x0 := x0) (HM.rd hp0) h724)) ?_
  rintro _ w725 ⟨rfl, hn⟩
  replace HM : Mem w [] w725 [box b716 85 [.int .i64 0, .slice none 0 0]] := HM.call hn
  refine ops_ex rfl (guard_none rfl) rfl rfl (ex_assign rfl rfl) ?_
  refine ops_nil ?_
  refine at_then ?_
  refine run_seq ?_
  refine run_region rfl ?_
  refine ops_ex rfl (guard_none rfl) rfl rfl (ex_move rfl rfl) ?_
  refine ops_ex rfl (guard_none rfl) rfl rfl (ex_neq rfl rfl rfl) ?_
  refine ops_nil ?_
  refine at_then ?_
  refine run_cond (b := (t723 != 0)) rfl (fun hb726 => ?_) (fun hb726 => ?_)
  · replace H := cond_t hb726 H
    refine run_seq ?_
    refine run_region rfl ?_
    refine ops_ex rfl (guard_none rfl) rfl rfl (ex_move rfl rfl) ?_
    refine ops_ex rfl (guard_none rfl) rfl rfl (ex_build (cells := #[(.int .i64 t723), (.slice none 0 0)]) rfl rfl (by kernel_rfl)) ?_
    refine ops_doesS rfl (guard_none rfl) rfl (does_store (vs := [.int .i64 t723, .slice none 0 0]) (cs' := [.int .i64 t723, .slice none 0 0]) rfl rfl rfl rfl tsz85 (Ones.int (Ones.sl Ones.nil)) rfl rfl HM) ?_
    rintro w727 HM
    refine ops_nil ?_
    refine at_then ?_
    refine run_ret ?_
    refine at_then_ret ?_
    replace HM := HM.empty kMember 144 none
    replace HM := HM.front 1 rfl rfl
    have hcb0 := HM.box_at 0 rfl
    replace HM := (HM.front 0 rfl rfl).drop
    have hR := Option.some.inj H
    subst hR
    exact at_retN rfl rfl Try.underlying85 rfl tsz85 rfl hcb0 ⟨_, rfl, _, rfl, HM⟩
  · replace H := cond_f hb726 H
    refine run_skip ?_
    refine at_then ?_
    refine run_seq ?_
    obtain ⟨t729, h730, H⟩ := bind_some H
    refine run_region rfl ?_
    refine ops_ex rfl (guard_none rfl) rfl rfl (ex_move rfl rfl) ?_
    refine ops_ex rfl (guard_none rfl) rfl rfl (ex_move rfl rfl) ?_
    refine ops_does rfl (guard_none rfl) rfl rfl (does_callk rfl callok117 rfl (spec_l6At.calls (x0 := x0) (x1 := x1) (HM.rd hp0) h730)) ?_
    rintro _ w731 ⟨rfl, hn⟩
    replace HM : Mem w [] w731 [box b716 85 [.int .i64 0, .slice none 0 0]] := HM.call hn
    refine ops_ex rfl (guard_none rfl) rfl rfl (ex_assign rfl rfl) ?_
    refine ops_nil ?_
    refine at_then ?_
    refine run_seq ?_
    refine run_seq ?_
    refine run_region rfl ?_
    refine ops_ex rfl (guard_none rfl) rfl rfl (ex_move rfl rfl) ?_
    refine ops_ex rfl (guard_none rfl) rfl rfl (ex_lss rfl rfl rfl) ?_
    refine ops_nil ?_
    refine at_then ?_
    refine run_cond (b := (decide (t729 < 0))) rfl (fun hb733 => ?_) (fun hb733 => ?_)
    · replace H := cond_t hb733 H
      refine run_seq ?_
      refine run_region rfl ?_
      refine ops_ex rfl (guard_none rfl) rfl rfl (ex_build (cells := #[(.int .i64 4), (.slice none 0 0)]) rfl rfl (by kernel_rfl)) ?_
      refine ops_doesS rfl (guard_none rfl) rfl (does_store (vs := [.int .i64 4, .slice none 0 0]) (cs' := [.int .i64 4, .slice none 0 0]) rfl rfl rfl rfl tsz85 (Ones.int (Ones.sl Ones.nil)) rfl rfl HM) ?_
      rintro w734 HM
      refine ops_nil ?_
      refine at_then ?_
      refine run_ret ?_
      refine at_then_ret ?_
      replace HM := HM.empty kMember 144 none
      replace HM := HM.front 1 rfl rfl
      have hcb0 := HM.box_at 0 rfl
      replace HM := (HM.front 0 rfl rfl).drop
      have hR := Option.some.inj H
      subst hR
      exact at_retN rfl rfl Try.underlying85 rfl tsz85 rfl hcb0 ⟨_, rfl, _, rfl, HM⟩
    · replace H := cond_f hb733 H
      refine run_skip ?_
      refine at_then ?_
      refine run_seq ?_
      obtain ⟨e736, H⟩ := chk_some H
      refine run_region rfl ?_
      refine ops_ex rfl (guard_none rfl) rfl rfl (ex_move rfl rfl) ?_
      refine ops_ex rfl (guard_none rfl) rfl rfl (ex_move rfl rfl) ?_
      have hc737 : CellsAt _ (sb p0) (so p0 + (t729).toNat * 3) [(.int .i64 ((gt x0 t729).fKey)), (.int .i64 ((gt x0 t729).fRef.fTx)), (.int .i64 ((gt x0 t729).fRef.fAt))] := rd_plain hp0 e736
      refine ops_ex rfl (guard_none rfl) rfl rfl (ex_indexAddr (d := kMember) rfl rfl rfl Try.underlying49 tsz144 hp0 (idx_lo e736) (idx_hi e736)) ?_
      refine ops_ex rfl (guard_none rfl) rfl rfl (ex_loadN (cs := [(.int .i64 ((gt x0 t729).fKey)), (.int .i64 ((gt x0 t729).fRef.fTx)), (.int .i64 ((gt x0 t729).fRef.fAt))]) rfl rfl Try.underlying144 rfl tsz144 rfl ((HM.at_ hc737).sub 0 3 rfl)) ?_
      refine ops_does rfl (guard_none rfl) rfl rfl (does_lit (e := 144) (cs := [.int .i64 ((gt x0 t729).fKey), .int .i64 ((gt x0 t729).fRef.fTx), .int .i64 ((gt x0 t729).fRef.fAt)]) (xs := ([(gt x0 t729)] : List Member)) kMember rfl rfl (fun _ => by kernel_rfl) rfl rfl (fun _ _ h => by have h' : _ = [] := h; subst h'; exact (Elems.cons (d := kMember) (f := []) ⟨rfl, rfl⟩ .nil)) HM.emp) ?_
      rintro v738 w741 HM
      refine ops_ex rfl (guard_none rfl) rfl rfl (ex_build1 (fun v738 => [(1, v738)]) (fun v738 => #[.int .i64 0, v738]) rfl rfl (fun _ _ _ => by kernel_rfl) (HM.own_rd 0 rfl).isSl) ?_
      replace HM := HM.front 1 rfl rfl
      refine ops_doesS rfl (guard_none rfl) rfl (does_store (vs := [.int .i64 0, v738]) (cs' := [.int .i64 0, v738]) rfl rfl rfl rfl tsz85 (Ones.int (Ones.rd (HM.own_rd 1 rfl) Ones.nil)) rfl rfl HM) ?_
      rintro w742 HM
      refine ops_nil ?_
      refine at_then ?_
      refine run_ret ?_
      have hcb0 := HM.box_at 0 rfl
      replace HM := (HM.front 0 rfl rfl).drop
      have hR := Option.some.inj H
      subst hR
      exact at_retN rfl rfl Try.underlying85 rfl tsz85 rfl hcb0 ⟨_, rfl, _, rfl, HM⟩
end Go.Proofs.Ytoiacoiccpiciaa.Zk
