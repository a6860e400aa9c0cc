/- What functions of the program compute, each as a plain function, and that they do. Conditions: as each theorem states them. -/
import Derived.Test.YtecgbhfgkkpmhabGreatUndoTxZkF0
namespace Go.Proofs.YtecgbhfgkkpmhabGreat.Zk
open Go Go.RowKit Go.IntWalk Go.Proofs
set_option linter.unusedVariables false
set_option linter.unusedSimpArgs false
set_option maxRecDepth 100000
set_option maxHeartbeats 4000000
def laws_toRefS.l0 (x0 : List Ref) : Nat → (List Ref) → Int → Option ((List Ref))
  | 0, _, _ => none
  | k + 1, a686, a688 => (bif (decide (a688 < (x0.length : Int))) then (chk (idxOk a688 x0.length) ((laws_toRef.f k (gt x0 a688)).bind fun t700 => (chk (idxOk a688 a686.length) (laws_toRefS.l0 x0 k (a686.set (a688).toNat t700) (wrap64 (a688 + 1)))))) else some a686)
theorem laws_toRefS.l0_z (x0 : List Ref) (a686 : List Ref) (a688 : Int) : laws_toRefS.l0 x0 0 a686 a688 = none := rfl
theorem laws_toRefS.l0_s (x0 : List Ref) (k : Nat) (a686 : List Ref) (a688 : Int) : laws_toRefS.l0 x0 (k + 1) a686 a688 = (bif (decide (a688 < (x0.length : Int))) then (chk (idxOk a688 x0.length) ((laws_toRef.f k (gt x0 a688)).bind fun t700 => (chk (idxOk a688 a686.length) (laws_toRefS.l0 x0 k (a686.set (a688).toNat t700) (wrap64 (a688 + 1)))))) else some a686) := rfl
def laws_toRefS.f (k : Nat) (x0 : List Ref) : Option ((List Ref)) := (chk (decide (0 ≤ (x0.length : Int))) (chk (leB (((x0.length : Int)).toNat * 16) 281474976710656) ((laws_toRefS.l0 x0 k (List.replicate ((x0.length : Int)).toNat (⟨0, 0⟩ : Ref)) 0).bind (fun a675 => some a675))))
theorem laws_toRefS.calls {k : Nat} {x0 : List Ref} {p0 : Value} {w : World} (hp0 : RdS kRef w p0 x0) {r : (List Ref)} (H : laws_toRefS.f k x0 = some r) :
    Calls Tryz.prog 28 ([p0] : List Value).toArray w (fun e w_ => ∃ v, e = .returned v ∧ ∃ u0 : Value, v = u0 ∧ Mem w [] w_ [own kRef 66 u0 r]) := by
  have HM := Mem.start w
  refine calls_run (N := 23) Tryz.func28 rfl rfl rfl rfl ?_
  unfold laws_toRefS.f at H
  refine run_seq ?_
  refine run_region rfl ?_
  refine ox rfl rfl rfl rfl (ex_assign rfl rfl) ?_
  refine ops_nil (at_then (run_seq ?_))
  obtain ⟨e649, H⟩ := chk_some H
  obtain ⟨e650, H⟩ := chk_some H
  refine run_region rfl ?_
  refine ox rfl rfl rfl rfl (ex_move rfl rfl) ?_
  refine ox rfl rfl rfl rfl (ex_len (d := kRef) (xs := x0) rfl rfl Tryz.underlying23 hp0) ?_
  refine od rfl rfl rfl rfl (does_make (x := (⟨0, 0⟩ : Ref)) kRef rfl rfl rfl Tryz.underlying34 tsz66 tby66 tz66 rfl rfl (fun _ => ⟨rfl, rfl⟩) (of_decide_eq_true e649) rfl (leB_le e650) rfl HM) ?_
  rintro v646 w651 HM
  refine ox rfl rfl rfl rfl (ex_assign rfl rfl) ?_
  refine ops_nil (at_then ?_)
  obtain ⟨o677, ho678, H⟩ := bind_some H
  refine run_mid (fun ρ_ w_ => ∃ v674 : Value, ∃ a675 : List Ref, a675 = o677 ∧ ρ_ = [(3, v674)] ∧ Mem w [] w_ [own kRef 66 v674 a675]) ?_ ?_
  · clear H
    refine run_seq ?_
    refine run_region rfl ?_
    refine ox rfl rfl rfl rfl (ex_assign rfl rfl) ?_
    refine ops_nil (at_then ?_)
    refine run_block ?_
    refine run_loop (fun k_ ρ_ w_ => ∃ v685 : Value, ∃ a686 : List Ref, ∃ a688 : Int, laws_toRefS.l0 x0 k_ a686 a688 = some o677 ∧ ρ_ = [(0, p0), (3, v685), (4, .int .i64 a688)] ∧ Mem w [] w_ [own kRef 66 v685 a686]) k (ρ1 := [(0, p0), (3, v646), (4, .int .i64 0)]) ⟨_, _, _, ho678, rfl, HM⟩ (Sub.cons rfl (Sub.cons rfl (Sub.cons rfl Sub.nil))) ?_
    clear HM ho678
    rintro k695 _ w696 ⟨v685, a686, a688, ho678, rfl, HM⟩
    obtain _ | k695 := k695
    · exact nomatch ((laws_toRefS.l0_z x0 a686 a688).symm.trans ho678)
    replace ho678 := (laws_toRefS.l0_s x0 k695 a686 a688).symm.trans ho678
    refine run_seq ?_
    refine run_seq ?_
    refine run_region rfl ?_
    refine ox rfl rfl rfl rfl (ex_move rfl rfl) ?_
    refine ox rfl rfl rfl rfl (ex_move rfl rfl) ?_
    refine ox rfl rfl rfl rfl (ex_len (d := kRef) (xs := x0) rfl rfl Tryz.underlying23 hp0) ?_
    refine ox rfl rfl rfl rfl (ex_lss rfl rfl rfl) ?_
    refine ops_nil (at_then ?_)
    refine run_cond (b := (decide (a688 < (x0.length : Int)))) rfl (fun hb697 => ?_) (fun hb697 => ?_)
    · replace ho678 := cond_t hb697 ho678
      refine run_skip ?_
      refine at_then ?_
      refine run_seq ?_
      refine run_block ?_
      obtain ⟨e698, ho678⟩ := chk_some ho678
      obtain ⟨t700, h701, ho678⟩ := bind_some ho678
      obtain ⟨e702, ho678⟩ := chk_some ho678
      refine run_region rfl ?_
      refine ox rfl rfl rfl rfl (ex_move rfl rfl) ?_
      refine ox rfl rfl rfl rfl (ex_move rfl rfl) ?_
      refine ox rfl rfl rfl rfl (ex_move rfl rfl) ?_
      refine ox rfl rfl rfl rfl (ex_move rfl rfl) ?_
      have hc699 : CellsAt _ (sb p0) (so p0 + (a688).toNat * 2) [(.int .i64 ((gt x0 a688).fTx)), (.int .i64 ((gt x0 a688).fAt))] := rd_plain hp0 e698
      refine ox rfl rfl rfl rfl (ex_indexAddr (d := kRef) rfl rfl rfl Tryz.underlying23 tsz48 hp0 (idx_lo e698) (idx_hi e698)) ?_
      refine ox rfl rfl rfl rfl (ex_loadN (cs := [(.int .i64 ((gt x0 a688).fTx)), (.int .i64 ((gt x0 a688).fAt))]) rfl rfl Tryz.underlying48 rfl tsz48 rfl ((HM.at_ hc699).sub 0 2 rfl)) ?_
      refine od rfl rfl rfl rfl (does_callk rfl callok51 rfl (laws_toRef.calls (x0 := (gt x0 a688)) h701)) ?_
      rintro _ w703 ⟨rfl, hn⟩
      replace HM : Mem w [] w703 [own kRef 66 v685 a686] := HM.call hn
      refine ox rfl rfl rfl rfl (ex_indexAddr (d := kRef) rfl rfl rfl Tryz.underlying34 tsz66 (HM.own_rd 0 rfl) (idx_lo e702) (idx_hi e702)) ?_
      refine odS rfl rfl rfl (does_setElem (vs := [(.int .i64 t700.fTx), (.int .i64 t700.fAt)]) (y := t700) kRef rfl rfl rfl rfl rfl tsz66 rfl rfl (idx_nat e702) (fun _ _ h => ⟨rfl, h⟩) (HM.emp.front 1 rfl rfl)) ?_
      rintro w704 HM
      refine ops_nil ?_
      refine at_block ?_
      refine at_then ?_
      refine run_region rfl ?_
      refine ox rfl rfl rfl rfl (ex_move rfl rfl) ?_
      refine ox rfl rfl rfl rfl (ex_add rfl rfl rfl) ?_
      refine ox rfl rfl rfl rfl (ex_assign rfl rfl) ?_
      refine ops_nil ?_
      exact at_again k695 (ρ1 := [(0, p0), (3, v685), (4, .int .i64 (wrap64 (a688 + 1)))]) (Nat.lt_succ_self _) ⟨_, _, _, ho678, rfl, HM⟩ (Sub.cons rfl (Sub.cons rfl (Sub.cons rfl Sub.nil)))
    · replace ho678 := cond_f hb697 ho678
      refine run_exit ?_
      refine at_then_exit ?_
      refine at_then_exit ?_
      refine at_block_exit ?_
      exact at_mid (ρ' := [(3, v685)]) ⟨_, _, (Option.some.inj ho678), rfl, HM⟩ (Sub.cons rfl Sub.nil)
  · rintro _ w705 ⟨v674, a675, rfl, rfl, HM⟩
    refine run_seq ?_
    refine run_region rfl ?_
    refine ox rfl rfl rfl rfl (ex_move rfl rfl) ?_
    refine ox rfl rfl rfl rfl (ex_assign rfl rfl) ?_
    refine ops_nil (at_then ?_)
    refine run_ret ?_
    have hR := Option.some.inj H
    subst hR
    exact at_ret1 rfl rfl ⟨_, rfl, _, rfl, HM⟩

def laws_toOutS.l0 (x0 : List Out) : Nat → (List Out) → Int → Option ((List Out))
  | 0, _, _ => none
  | k + 1, a810, a812 => (bif (decide (a812 < (x0.length : Int))) then (chk (idxOk a812 x0.length) ((laws_toOut.f k (gt x0 a812)).bind fun t830 => (chk (idxOk a812 a810.length) (laws_toOutS.l0 x0 k (a810.set (a812).toNat t830) (wrap64 (a812 + 1)))))) else some a810)
theorem laws_toOutS.l0_z (x0 : List Out) (a810 : List Out) (a812 : Int) : laws_toOutS.l0 x0 0 a810 a812 = none := rfl
theorem laws_toOutS.l0_s (x0 : List Out) (k : Nat) (a810 : List Out) (a812 : Int) : laws_toOutS.l0 x0 (k + 1) a810 a812 = (bif (decide (a812 < (x0.length : Int))) then (chk (idxOk a812 x0.length) ((laws_toOut.f k (gt x0 a812)).bind fun t830 => (chk (idxOk a812 a810.length) (laws_toOutS.l0 x0 k (a810.set (a812).toNat t830) (wrap64 (a812 + 1)))))) else some a810) := rfl
def laws_toOutS.f (k : Nat) (x0 : List Out) : Option ((List Out)) := (chk (decide (0 ≤ (x0.length : Int))) (chk (leB (((x0.length : Int)).toNat * 48) 281474976710656) ((laws_toOutS.l0 x0 k (List.replicate ((x0.length : Int)).toNat (⟨0, (⟨[], 0, 0⟩ : Rule)⟩ : Out)) 0).bind (fun a795 => some a795))))
theorem laws_toOutS.calls {k : Nat} {x0 : List Out} {p0 : Value} {w : World} (hp0 : RdS kOut w p0 x0) {r : (List Out)} (H : laws_toOutS.f k x0 = some r) :
    Calls Tryz.prog 29 ([p0] : List Value).toArray w (fun e w_ => ∃ v, e = .returned v ∧ ∃ u0 : Value, v = u0 ∧ Mem w [] w_ [own kOut 70 u0 r]) := by
  have HM := Mem.start w
  refine calls_run (N := 23) Tryz.func29 rfl rfl rfl rfl ?_
  unfold laws_toOutS.f at H
  refine run_seq ?_
  refine run_region rfl ?_
  refine ox rfl rfl rfl rfl (ex_assign rfl rfl) ?_
  refine ops_nil (at_then (run_seq ?_))
  obtain ⟨e757, H⟩ := chk_some H
  obtain ⟨e758, H⟩ := chk_some H
  refine run_region rfl ?_
  refine ox rfl rfl rfl rfl (ex_move rfl rfl) ?_
  refine ox rfl rfl rfl rfl (ex_len (d := kOut) (xs := x0) rfl rfl Tryz.underlying24 hp0) ?_
  refine od rfl rfl rfl rfl (does_make (x := (⟨0, (⟨[], 0, 0⟩ : Rule)⟩ : Out)) kOut rfl rfl rfl Tryz.underlying35 tsz70 tby70 tz70 rfl rfl (fun _ => ⟨.slice none 0 0, rfl, OwS.nil _ _ _ _⟩) (of_decide_eq_true e757) rfl (leB_le e758) rfl HM) ?_
  rintro v754 w759 HM
  refine ox rfl rfl rfl rfl (ex_assign rfl rfl) ?_
  refine ops_nil (at_then ?_)
  obtain ⟨o797, ho798, H⟩ := bind_some H
  refine run_mid (fun ρ_ w_ => ∃ v794 : Value, ∃ a795 : List Out, a795 = o797 ∧ ρ_ = [(3, v794)] ∧ Mem w [] w_ [own kOut 70 v794 a795]) ?_ ?_
  · clear H
    refine run_seq ?_
    refine run_region rfl ?_
    refine ox rfl rfl rfl rfl (ex_assign rfl rfl) ?_
    refine ops_nil (at_then ?_)
    refine run_block ?_
    refine run_loop (fun k_ ρ_ w_ => ∃ v809 : Value, ∃ a810 : List Out, ∃ a812 : Int, laws_toOutS.l0 x0 k_ a810 a812 = some o797 ∧ ρ_ = [(0, p0), (3, v809), (4, .int .i64 a812)] ∧ Mem w [] w_ [own kOut 70 v809 a810]) k (ρ1 := [(0, p0), (3, v754), (4, .int .i64 0)]) ⟨_, _, _, ho798, rfl, HM⟩ (Sub.cons rfl (Sub.cons rfl (Sub.cons rfl Sub.nil))) ?_
    clear HM ho798
    rintro k823 _ w824 ⟨v809, a810, a812, ho798, rfl, HM⟩
    obtain _ | k823 := k823
    · exact nomatch ((laws_toOutS.l0_z x0 a810 a812).symm.trans ho798)
    replace ho798 := (laws_toOutS.l0_s x0 k823 a810 a812).symm.trans ho798
    refine run_seq ?_
    refine run_seq ?_
    refine run_region rfl ?_
    refine ox rfl rfl rfl rfl (ex_move rfl rfl) ?_
    refine ox rfl rfl rfl rfl (ex_move rfl rfl) ?_
    refine ox rfl rfl rfl rfl (ex_len (d := kOut) (xs := x0) rfl rfl Tryz.underlying24 hp0) ?_
    refine ox rfl rfl rfl rfl (ex_lss rfl rfl rfl) ?_
    refine ops_nil (at_then ?_)
    refine run_cond (b := (decide (a812 < (x0.length : Int)))) rfl (fun hb825 => ?_) (fun hb825 => ?_)
    · replace ho798 := cond_t hb825 ho798
      refine run_skip ?_
      refine at_then ?_
      refine run_seq ?_
      refine run_block ?_
      obtain ⟨e826, ho798⟩ := chk_some ho798
      obtain ⟨t830, h831, ho798⟩ := bind_some ho798
      obtain ⟨e834, ho798⟩ := chk_some ho798
      refine run_region rfl ?_
      refine ox rfl rfl rfl rfl (ex_move rfl rfl) ?_
      refine ox rfl rfl rfl rfl (ex_move rfl rfl) ?_
      refine ox rfl rfl rfl rfl (ex_move rfl rfl) ?_
      refine ox rfl rfl rfl rfl (ex_move rfl rfl) ?_
      obtain ⟨kv828, hc827, hk829⟩ : ∃ u, CellsAt _ (sb p0) (so p0 + (a812).toNat * 4) [(.int .i64 ((gt x0 a812).fValue)), u, (.int .i64 ((gt x0 a812).fRule.fNeed)), (.int .i64 ((gt x0 a812).fRule.fAfter))] ∧ RdS kInt _ u ((gt x0 a812).fRule.fKeys) := rd_with1 hp0 e826
      refine ox rfl rfl rfl rfl (ex_indexAddr (d := kOut) rfl rfl rfl Tryz.underlying24 tsz53 hp0 (idx_lo e826) (idx_hi e826)) ?_
      refine ox rfl rfl rfl rfl (ex_loadN (cs := [(.int .i64 ((gt x0 a812).fValue)), kv828, (.int .i64 ((gt x0 a812).fRule.fNeed)), (.int .i64 ((gt x0 a812).fRule.fAfter))]) rfl rfl Tryz.underlying53 rfl tsz53 rfl ((HM.at_ hc827).sub 0 4 rfl)) ?_
      refine od rfl rfl rfl rfl (does_callk rfl callok52 rfl (laws_toOut.calls (x0 := (gt x0 a812)) (HM.rd hk829) h831)) ?_
      rintro _ w835 ⟨u832, rfl, hn⟩
      replace HM : Mem w [] w835 [own kInt 2 u832 t830.fRule.fKeys, own kOut 70 v809 a810] := HM.call hn
      refine ox rfl rfl rfl rfl (ex_indexAddr (d := kOut) rfl rfl rfl Tryz.underlying35 tsz70 (HM.own_rd 1 rfl) (idx_lo e834) (idx_hi e834)) ?_
      replace HM := HM.front 1 rfl rfl
      refine odS rfl rfl rfl (does_setElem (vs := [(.int .i64 t830.fValue), u832, (.int .i64 t830.fRule.fNeed), (.int .i64 t830.fRule.fAfter)]) (y := t830) kOut rfl rfl rfl rfl rfl tsz70 rfl rfl (idx_nat e834) (fun _ _ h => ⟨_, rfl, h⟩) HM) ?_
      rintro w836 HM
      refine ops_nil ?_
      refine at_block ?_
      refine at_then ?_
      refine run_region rfl ?_
      refine ox rfl rfl rfl rfl (ex_move rfl rfl) ?_
      refine ox rfl rfl rfl rfl (ex_add rfl rfl rfl) ?_
      refine ox rfl rfl rfl rfl (ex_assign rfl rfl) ?_
      refine ops_nil ?_
      exact at_again k823 (ρ1 := [(0, p0), (3, v809), (4, .int .i64 (wrap64 (a812 + 1)))]) (Nat.lt_succ_self _) ⟨_, _, _, ho798, rfl, HM⟩ (Sub.cons rfl (Sub.cons rfl (Sub.cons rfl Sub.nil)))
    · replace ho798 := cond_f hb825 ho798
      refine run_exit ?_
      refine at_then_exit ?_
      refine at_then_exit ?_
      refine at_block_exit ?_
      exact at_mid (ρ' := [(3, v809)]) ⟨_, _, (Option.some.inj ho798), rfl, HM⟩ (Sub.cons rfl Sub.nil)
  · rintro _ w837 ⟨v794, a795, rfl, rfl, HM⟩
    refine run_seq ?_
    refine run_region rfl ?_
    refine ox rfl rfl rfl rfl (ex_move rfl rfl) ?_
    refine ox rfl rfl rfl rfl (ex_assign rfl rfl) ?_
    refine ops_nil (at_then ?_)
    refine run_ret ?_
    have hR := Option.some.inj H
    subst hR
    exact at_ret1 rfl rfl ⟨_, rfl, _, rfl, HM⟩

def laws_toTx.f (k : Nat) (x0 : Tx) : Option Tx := ((laws_toRefS.f k x0.fIns).bind fun t856 => ((laws_toOutS.f k x0.fOuts).bind fun t862 => some (⟨x0.fKind, x0.fMember, t856, t862⟩ : Tx)))
theorem laws_toTx.calls {k : Nat} {x0 : Tx} {p0_0 : Value} {p0_1 : Value} {w : World} (hp0_0 : RdS kRef w p0_0 x0.fIns) (hp0_1 : RdS kOut w p0_1 x0.fOuts) {r : Tx} (H : laws_toTx.f k x0 = some r) :
    Calls Tryz.prog 8 ([.agg #[(.int .i64 x0.fKind), (.int .i64 x0.fMember), p0_0, p0_1]] : List Value).toArray w (fun e w_ => ∃ v, e = .returned v ∧ ∃ u0 : Value, ∃ u1 : Value, v = (.agg #[.int .i64 r.fKind, .int .i64 r.fMember, u0, u1]) ∧ Mem w [] w_ [own kRef 66 u0 r.fIns, own kOut 70 u1 r.fOuts]) := by
  have HM := Mem.start w
  refine calls_run (N := 19) Tryz.func8 rfl rfl rfl rfl ?_
  unfold laws_toTx.f at H
  refine run_seq ?_
  refine run_region rfl ?_
  refine od rfl rfl rfl rfl (does_box (cs := [.int .i64 x0.fKind, .int .i64 x0.fMember, p0_0, p0_1]) rfl rfl rfl HM) ?_
  rintro _ w848 ⟨b842, rfl, HM⟩
  refine od rfl rfl rfl rfl (does_alloc (cs := [.int .i64 0, .int .i64 0, .slice none 0 0, .slice none 0 0]) rfl tz37 rfl HM) ?_
  rintro _ w849 ⟨b845, rfl, HM⟩
  refine ops_nil (at_then (run_seq ?_))
  refine run_region rfl ?_
  refine od rfl rfl rfl rfl (does_alloc (cs := [.int .i64 0, .int .i64 0, .slice none 0 0, .slice none 0 0]) rfl tz37 rfl HM) ?_
  rintro _ w853 ⟨b850, rfl, HM⟩
  refine ops_nil (at_then (run_seq ?_))
  refine run_region rfl ?_
  refine ox rfl rfl rfl rfl (ex_fieldAddr (off' := 0) rfl rfl Tryz.underlying26 rfl tsz2 rfl) ?_
  refine ox rfl rfl rfl rfl (ex_load1 rfl rfl Tryz.underlying2 rfl ((HM.box_at 2 rfl) 0 _ rfl)) ?_
  refine ox rfl rfl rfl rfl (ex_fieldAddr (off' := 0) rfl rfl Tryz.underlying37 rfl tsz2 rfl) ?_
  refine odS rfl rfl rfl (does_store (vs := [.int .i64 x0.fKind]) (cs' := [.int .i64 x0.fKind, .int .i64 0, .slice none 0 0, .slice none 0 0]) rfl rfl rfl rfl tsz2 (Ones.int Ones.nil) rfl rfl HM) ?_
  rintro w854 HM
  refine ops_nil (at_then (run_seq ?_))
  refine run_region rfl ?_
  refine ox rfl rfl rfl rfl (ex_fieldAddr (off' := 1) rfl rfl Tryz.underlying26 rfl tsz2 rfl) ?_
  refine ox rfl rfl rfl rfl (ex_load1 rfl rfl Tryz.underlying2 rfl ((HM.box_at 2 rfl) 1 _ rfl)) ?_
  refine ox rfl rfl rfl rfl (ex_fieldAddr (off' := 1) rfl rfl Tryz.underlying37 rfl tsz2 rfl) ?_
  refine odS rfl rfl rfl (does_store (vs := [.int .i64 x0.fMember]) (cs' := [.int .i64 x0.fKind, .int .i64 x0.fMember, .slice none 0 0, .slice none 0 0]) rfl rfl rfl rfl tsz2 (Ones.int Ones.nil) rfl rfl HM) ?_
  rintro w855 HM
  refine ops_nil (at_then (run_seq ?_))
  obtain ⟨t856, h857, H⟩ := bind_some H
  refine run_region rfl ?_
  refine ox rfl rfl rfl rfl (ex_fieldAddr (off' := 2) rfl rfl Tryz.underlying26 rfl tsz23 rfl) ?_
  refine ox rfl rfl rfl rfl (ex_load1 rfl rfl Tryz.underlying23 rfl ((HM.box_at 2 rfl) 2 _ rfl)) ?_
  refine od rfl rfl rfl rfl (does_callk rfl callok28 rfl (laws_toRefS.calls (x0 := x0.fIns) (HM.rd hp0_0) h857)) ?_
  rintro u858 w860 ⟨_, rfl, hn⟩
  replace HM : Mem w [] w860 [own kRef 66 u858 t856, box b850 37 [.int .i64 x0.fKind, .int .i64 x0.fMember, .slice none 0 0, .slice none 0 0], box b845 37 [.int .i64 0, .int .i64 0, .slice none 0 0, .slice none 0 0], box b842 26 [.int .i64 x0.fKind, .int .i64 x0.fMember, p0_0, p0_1]] := HM.call hn
  refine ox rfl rfl rfl rfl (ex_fieldAddr (off' := 2) rfl rfl Tryz.underlying37 rfl tsz34 rfl) ?_
  replace HM := HM.front 1 rfl rfl
  refine odS rfl rfl rfl (does_store (vs := [u858]) (cs' := [.int .i64 x0.fKind, .int .i64 x0.fMember, u858, .slice none 0 0]) rfl rfl rfl (rd_cells (HM.own_rd 1 rfl)) tsz34 (Ones.rd (HM.own_rd 1 rfl) Ones.nil) rfl rfl HM) ?_
  rintro w861 HM
  refine ops_nil (at_then (run_seq ?_))
  obtain ⟨t862, h863, H⟩ := bind_some H
  refine run_region rfl ?_
  refine ox rfl rfl rfl rfl (ex_fieldAddr (off' := 3) rfl rfl Tryz.underlying26 rfl tsz24 rfl) ?_
  refine ox rfl rfl rfl rfl (ex_load1 rfl rfl Tryz.underlying24 rfl ((HM.box_at 3 rfl) 3 _ rfl)) ?_
  refine od rfl rfl rfl rfl (does_callk rfl callok29 rfl (laws_toOutS.calls (x0 := x0.fOuts) (HM.rd hp0_1) h863)) ?_
  rintro u864 w866 ⟨_, rfl, hn⟩
  replace HM : Mem w [] w866 [own kOut 70 u864 t862, box b850 37 [.int .i64 x0.fKind, .int .i64 x0.fMember, u858, .slice none 0 0], own kRef 66 u858 t856, box b845 37 [.int .i64 0, .int .i64 0, .slice none 0 0, .slice none 0 0], box b842 26 [.int .i64 x0.fKind, .int .i64 x0.fMember, p0_0, p0_1]] := HM.call hn
  refine ox rfl rfl rfl rfl (ex_fieldAddr (off' := 3) rfl rfl Tryz.underlying37 rfl tsz35 rfl) ?_
  replace HM := HM.front 1 rfl rfl
  refine odS rfl rfl rfl (does_store (vs := [u864]) (cs' := [.int .i64 x0.fKind, .int .i64 x0.fMember, u858, u864]) rfl rfl rfl (rd_cells (HM.own_rd 1 rfl)) tsz35 (Ones.rd (HM.own_rd 1 rfl) Ones.nil) rfl rfl HM) ?_
  rintro w867 HM
  refine ops_nil (at_then (run_seq ?_))
  refine run_region rfl ?_
  refine ox rfl rfl rfl rfl (ex_loadN (cs := [(.int .i64 x0.fKind), (.int .i64 x0.fMember), u858, u864]) rfl rfl Tryz.underlying37 rfl tsz37 rfl ((HM.box_at 0 rfl).sub 0 4 rfl)) ?_
  replace HM := HM.front 3 rfl rfl
  refine odS rfl rfl rfl (does_store (vs := [.int .i64 x0.fKind, .int .i64 x0.fMember, u858, u864]) (cs' := [.int .i64 x0.fKind, .int .i64 x0.fMember, u858, u864]) rfl rfl rfl rfl tsz37 (Ones.int (Ones.int (Ones.rd (HM.own_rd 3 rfl) (Ones.rd (HM.own_rd 2 rfl) Ones.nil)))) rfl rfl HM) ?_
  rintro w868 HM
  refine ops_nil (at_then ?_)
  refine run_ret ?_
  replace HM := (HM.front 1 rfl rfl).drop
  replace HM := (HM.front 3 rfl rfl).drop
  replace HM := HM.front 1 rfl rfl
  replace HM := HM.front 2 rfl rfl
  replace HM := HM.front 2 rfl rfl
  have hcb0 := HM.box_at 0 rfl
  replace HM := (HM.front 0 rfl rfl).drop
  have hR := Option.some.inj H
  subst hR
  exact at_retN rfl rfl Tryz.underlying37 rfl tsz37 rfl hcb0 ⟨_, rfl, _, _, rfl, HM⟩

def spec_l1In.f (k : Nat) (x0 : Int) (x1 : Int) (x2 : Int) : Option Bool := some ((decide (x1 ≤ x0)) && (decide (x0 ≤ x2)))
theorem spec_l1In.calls {k : Nat} {x0 : Int} {x1 : Int} {x2 : Int}  {w : World}  {r : Bool} (H : spec_l1In.f k x0 x1 x2 = some r) :
    Calls Tryz.prog 22 ([.int .i64 x0, .int .i64 x1, .int .i64 x2] : List Value).toArray w (fun e w_ => ∃ v, e = .returned v ∧ v = (.bool r) ∧ Mem w [] w_ []) := by
  have HM := Mem.start w
  refine calls_run (N := 15) Tryz.func22 rfl rfl rfl rfl ?_
  unfold spec_l1In.f at H
  refine run_seq ?_
  refine run_region rfl ?_
  refine ox rfl rfl rfl rfl (ex_assign rfl rfl) ?_
  refine ops_nil (at_then (run_seq ?_))
  refine run_meet (fun ρ_ w_ => ρ_ = [(6, .bool ((decide (x1 ≤ x0)) && (decide (x0 ≤ x2))))] ∧ Mem w [] w_ []) ?_ ?_
  · skip
    refine run_region rfl ?_
    refine ox rfl rfl rfl rfl (ex_move rfl rfl) ?_
    refine ox rfl rfl rfl rfl (ex_move rfl rfl) ?_
    refine ox rfl rfl rfl rfl (ex_geq rfl rfl rfl) ?_
    refine ox rfl rfl rfl rfl (ex_move rfl rfl) ?_
    refine bool_cases (decide (x1 ≤ x0)) (fun hg895 => ?_) (fun hg895 => ?_)
    · skip
      refine ops_ex rfl (guard_on rfl rfl rfl hg895) rfl rfl (ex_move rfl rfl) ?_
      refine ops_ex rfl (guard_on rfl rfl rfl hg895) rfl rfl (ex_move rfl rfl) ?_
      refine ops_ex rfl (guard_on rfl rfl rfl hg895) rfl rfl (ex_leq rfl rfl rfl) ?_
      refine ops_ex (v := .bool ((decide (x1 ≤ x0)) && (decide (x0 ≤ x2)))) rfl (guard_none rfl) rfl rfl (ex_pand_t rfl rfl hg895 rfl) ?_
      refine ox rfl rfl rfl rfl (ex_assign rfl rfl) ?_
      refine ops_nil ?_
      exact at_meet [(6, .bool ((decide (x1 ≤ x0)) && (decide (x0 ≤ x2))))] ⟨rfl, HM⟩ (Sub.cons rfl Sub.nil)
    · skip
      refine ops_off rfl (guard_off rfl rfl rfl hg895) rfl rfl ?_
      refine ops_off rfl (guard_off rfl rfl rfl hg895) rfl rfl ?_
      refine ops_off rfl (guard_off rfl rfl rfl hg895) rfl rfl ?_
      have hg896 : ((decide (x1 ≤ x0)) && (decide (x0 ≤ x2))) = false := by simp only [hg895, Bool.and_true, Bool.true_and, Bool.and_false, Bool.false_and, Bool.or_true, Bool.true_or, Bool.or_false, Bool.false_or, Bool.not_true, Bool.not_false, Bool.not_not]
      refine ops_ex (v := .bool ((decide (x1 ≤ x0)) && (decide (x0 ≤ x2)))) rfl (guard_none rfl) rfl rfl (ex_pand_f rfl rfl hg895) ?_
      refine ox rfl rfl rfl rfl (ex_assign rfl rfl) ?_
      refine ops_nil ?_
      exact at_meet [(6, .bool ((decide (x1 ≤ x0)) && (decide (x0 ≤ x2))))] ⟨rfl, HM⟩ (Sub.cons rfl Sub.nil)
  · rintro _ w897 ⟨rfl, HM⟩
    refine at_then ?_
    refine run_ret ?_
    have hR := Option.some.inj H
    subst hR
    exact at_ret1 rfl rfl ⟨_, rfl, rfl, HM⟩

def spec_l3Ref.f (k : Nat) (x0 : Ref) : Option Bool := ((spec_l1In.f k x0.fTx 1 60).bind fun t906 => ((bif t906 then spec_l1In.f k x0.fAt 0 3 else some default).bind fun t908 => some (t906 && t908)))
theorem spec_l3Ref.calls {k : Nat} {x0 : Ref}  {w : World}  {r : Bool} (H : spec_l3Ref.f k x0 = some r) :
    Calls Tryz.prog 41 ([.agg #[(.int .i64 x0.fTx), (.int .i64 x0.fAt)]] : List Value).toArray w (fun e w_ => ∃ v, e = .returned v ∧ v = (.bool r) ∧ Mem w [] w_ []) := by
  have HM := Mem.start w
  refine calls_run (N := 11) Tryz.func41 rfl rfl rfl rfl ?_
  unfold spec_l3Ref.f at H
  refine run_seq ?_
  refine run_region rfl ?_
  refine od rfl rfl rfl rfl (does_box (cs := [.int .i64 x0.fTx, .int .i64 x0.fAt]) rfl rfl rfl HM) ?_
  rintro _ w905 ⟨b902, rfl, HM⟩
  refine ox rfl rfl rfl rfl (ex_assign rfl rfl) ?_
  refine ops_nil (at_then (run_seq ?_))
  obtain ⟨t906, h907, H⟩ := bind_some H
  obtain ⟨t908, h909, H⟩ := bind_some H
  refine run_meet (fun ρ_ w_ => ρ_ = [(2, .bool (t906 && t908))] ∧ Mem w [] w_ []) ?_ ?_
  · skip
    refine run_region rfl ?_
    refine ox rfl rfl rfl rfl (ex_fieldAddr (off' := 0) rfl rfl Tryz.underlying66 rfl tsz2 rfl) ?_
    refine ox rfl rfl rfl rfl (ex_load1 rfl rfl Tryz.underlying2 rfl ((HM.box_at 0 rfl) 0 _ rfl)) ?_
    refine od rfl rfl rfl rfl (does_callk rfl callok22 rfl (spec_l1In.calls (x0 := x0.fTx) (x1 := 1) (x2 := 60) h907)) ?_
    rintro _ w910 ⟨rfl, hn⟩
    replace HM : Mem w [] w910 [box b902 66 [.int .i64 x0.fTx, .int .i64 x0.fAt]] := HM.call hn
    refine ox rfl rfl rfl rfl (ex_move rfl rfl) ?_
    refine bool_cases t906 (fun hg911 => ?_) (fun hg911 => ?_)
    · skip
      refine ops_ex rfl (guard_on rfl rfl rfl hg911) rfl rfl (ex_fieldAddr (off' := 1) rfl rfl Tryz.underlying66 rfl tsz2 rfl) ?_
      refine ops_ex rfl (guard_on rfl rfl rfl hg911) rfl rfl (ex_load1 rfl rfl Tryz.underlying2 rfl ((HM.box_at 0 rfl) 1 _ rfl)) ?_
      refine ops_does rfl (guard_on rfl rfl rfl hg911) rfl rfl (does_callk rfl callok22 rfl (spec_l1In.calls (x0 := x0.fAt) (x1 := 0) (x2 := 3) (cond_t hg911 h909))) ?_
      rintro _ w912 ⟨rfl, hn⟩
      replace HM : Mem w [] w912 [box b902 66 [.int .i64 x0.fTx, .int .i64 x0.fAt]] := HM.call hn
      refine ops_ex (v := .bool (t906 && t908)) rfl (guard_none rfl) rfl rfl (ex_pand_t rfl rfl hg911 rfl) ?_
      refine ox rfl rfl rfl rfl (ex_assign rfl rfl) ?_
      refine ops_nil ?_
      replace HM := (HM.front 0 rfl rfl).drop
      exact at_meet [(2, .bool (t906 && t908))] ⟨rfl, HM⟩ (Sub.cons rfl Sub.nil)
    · skip
      refine ops_off rfl (guard_off rfl rfl rfl hg911) rfl rfl ?_
      refine ops_off rfl (guard_off rfl rfl rfl hg911) rfl rfl ?_
      refine ops_off rfl (guard_off rfl rfl rfl hg911) rfl rfl ?_
      have hg913 : (t906 && t908) = false := by simp only [hg911, Bool.and_true, Bool.true_and, Bool.and_false, Bool.false_and, Bool.or_true, Bool.true_or, Bool.or_false, Bool.false_or, Bool.not_true, Bool.not_false, Bool.not_not]
      refine ops_ex (v := .bool (t906 && t908)) rfl (guard_none rfl) rfl rfl (ex_pand_f rfl rfl hg911) ?_
      refine ox rfl rfl rfl rfl (ex_assign rfl rfl) ?_
      refine ops_nil ?_
      replace HM := (HM.front 0 rfl rfl).drop
      exact at_meet [(2, .bool (t906 && t908))] ⟨rfl, HM⟩ (Sub.cons rfl Sub.nil)
  · rintro _ w914 ⟨rfl, HM⟩
    refine at_then ?_
    refine run_ret ?_
    have hR := Option.some.inj H
    subst hR
    exact at_ret1 rfl rfl ⟨_, rfl, rfl, HM⟩

def spec_l2Height.f (k : Nat) (x0 : Int) : Option Bool := ((spec_l1In.f k x0 0 999).bind fun t923 => some t923)
theorem spec_l2Height.calls {k : Nat} {x0 : Int}  {w : World}  {r : Bool} (H : spec_l2Height.f k x0 = some r) :
    Calls Tryz.prog 42 ([.int .i64 x0] : List Value).toArray w (fun e w_ => ∃ v, e = .returned v ∧ v = (.bool r) ∧ Mem w [] w_ []) := by
  have HM := Mem.start w
  refine calls_run (N := 5) Tryz.func42 rfl rfl rfl rfl ?_
  unfold spec_l2Height.f at H
  refine run_seq ?_
  refine run_region rfl ?_
  refine ox rfl rfl rfl rfl (ex_assign rfl rfl) ?_
  refine ops_nil (at_then (run_seq ?_))
  obtain ⟨t923, h924, H⟩ := bind_some H
  refine run_region rfl ?_
  refine ox rfl rfl rfl rfl (ex_move rfl rfl) ?_
  refine od rfl rfl rfl rfl (does_callk rfl callok22 rfl (spec_l1In.calls (x0 := x0) (x1 := 0) (x2 := 999) h924)) ?_
  rintro _ w925 ⟨rfl, hn⟩
  replace HM : Mem w [] w925 [] := HM.call hn
  refine ox rfl rfl rfl rfl (ex_assign rfl rfl) ?_
  refine ops_nil (at_then ?_)
  refine run_ret ?_
  have hR := Option.some.inj H
  subst hR
  exact at_ret1 rfl rfl ⟨_, rfl, rfl, HM⟩

def spec_l1Key.f (k : Nat) (x0 : Int) : Option Bool := ((spec_l1In.f k x0 1 999).bind fun t963 => some t963)
theorem spec_l1Key.calls {k : Nat} {x0 : Int}  {w : World}  {r : Bool} (H : spec_l1Key.f k x0 = some r) :
    Calls Tryz.prog 45 ([.int .i64 x0] : List Value).toArray w (fun e w_ => ∃ v, e = .returned v ∧ v = (.bool r) ∧ Mem w [] w_ []) := by
  have HM := Mem.start w
  refine calls_run (N := 5) Tryz.func45 rfl rfl rfl rfl ?_
  unfold spec_l1Key.f at H
  refine run_seq ?_
  refine run_region rfl ?_
  refine ox rfl rfl rfl rfl (ex_assign rfl rfl) ?_
  refine ops_nil (at_then (run_seq ?_))
  obtain ⟨t963, h964, H⟩ := bind_some H
  refine run_region rfl ?_
  refine ox rfl rfl rfl rfl (ex_move rfl rfl) ?_
  refine od rfl rfl rfl rfl (does_callk rfl callok22 rfl (spec_l1In.calls (x0 := x0) (x1 := 1) (x2 := 999) h964)) ?_
  rintro _ w965 ⟨rfl, hn⟩
  replace HM : Mem w [] w965 [] := HM.call hn
  refine ox rfl rfl rfl rfl (ex_assign rfl rfl) ?_
  refine ops_nil (at_then ?_)
  refine run_ret ?_
  have hR := Option.some.inj H
  subst hR
  exact at_ret1 rfl rfl ⟨_, rfl, rfl, HM⟩

def spec_l2Fault.l0 (x0 : Rule) : Nat → Int → Option (Int ⊕ Unit)
  | 0, _ => none
  | k + 1, a1049 => (bif (decide (a1049 < (x0.fKeys.length : Int))) then (chk (idxOk a1049 x0.fKeys.length) ((spec_l1Key.f k (gt x0.fKeys a1049)).bind fun t1061 => (bif !t1061 then some (.inl 3) else spec_l2Fault.l0 x0 k (wrap64 (a1049 + 1))))) else some (.inr ()))
theorem spec_l2Fault.l0_z (x0 : Rule) (a1049 : Int) : spec_l2Fault.l0 x0 0 a1049 = none := rfl
theorem spec_l2Fault.l0_s (x0 : Rule) (k : Nat) (a1049 : Int) : spec_l2Fault.l0 x0 (k + 1) a1049 = (bif (decide (a1049 < (x0.fKeys.length : Int))) then (chk (idxOk a1049 x0.fKeys.length) ((spec_l1Key.f k (gt x0.fKeys a1049)).bind fun t1061 => (bif !t1061 then some (.inl 3) else spec_l2Fault.l0 x0 k (wrap64 (a1049 + 1))))) else some (.inr ())) := rfl
def spec_l2Fault.l1 (x0 : Rule) : Nat → Int → Option (Int ⊕ Unit)
  | 0, _ => none
  | k + 1, a1108 => (bif (decide (a1108 < (x0.fKeys.length : Int))) then (chk (idxOk a1108 x0.fKeys.length) (chk (idxOk (wrap64 (a1108 - 1)) x0.fKeys.length) (bif (decide ((gt x0.fKeys a1108) ≤ (gt x0.fKeys (wrap64 (a1108 - 1))))) then some (.inl 1) else spec_l2Fault.l1 x0 k (wrap64 (a1108 + 1))))) else some (.inr ()))
theorem spec_l2Fault.l1_z (x0 : Rule) (a1108 : Int) : spec_l2Fault.l1 x0 0 a1108 = none := rfl
theorem spec_l2Fault.l1_s (x0 : Rule) (k : Nat) (a1108 : Int) : spec_l2Fault.l1 x0 (k + 1) a1108 = (bif (decide (a1108 < (x0.fKeys.length : Int))) then (chk (idxOk a1108 x0.fKeys.length) (chk (idxOk (wrap64 (a1108 - 1)) x0.fKeys.length) (bif (decide ((gt x0.fKeys a1108) ≤ (gt x0.fKeys (wrap64 (a1108 - 1))))) then some (.inl 1) else spec_l2Fault.l1 x0 k (wrap64 (a1108 + 1))))) else some (.inr ())) := rfl
def spec_l2Fault.f (k : Nat) (x0 : Rule) : Option Int := ((spec_l1In.f k (x0.fKeys.length : Int) 1 3).bind fun t1018 => (bif !t1018 then some 2 else ((spec_l2Fault.l0 x0 k 0).bind fun o1041 => thn o1041 (fun r => some r) (fun _ => ((spec_l1In.f k x0.fNeed 1 (x0.fKeys.length : Int)).bind fun t1071 => ((bif (!(!t1071)) then spec_l2Height.f k x0.fAfter else some default).bind fun t1073 => (bif ((!t1071) || (!t1073)) then some 3 else ((spec_l2Fault.l1 x0 k 1).bind fun o1100 => thn o1100 (fun r => some r) (fun _ => some 0)))))))))
theorem spec_l2Fault.calls {k : Nat} {x0 : Rule} {b0 f0 : Nat} {p0_0 : Value} {w : World} (hc0 : CellsAt w b0 f0 [p0_0, .int .i64 x0.fNeed, .int .i64 x0.fAfter]) (hp0_0 : RdS kInt w p0_0 x0.fKeys) {r : Int} (H : spec_l2Fault.f k x0 = some r) :
    Calls Tryz.prog 76 ([.pointer (some ⟨b0, f0, none⟩)] : List Value).toArray w (fun e w_ => ∃ v, e = .returned v ∧ v = (.int .i64 r) ∧ Mem w [] w_ []) := by
  have HM := Mem.start w
  refine calls_run (N := 72) Tryz.func76 rfl rfl rfl rfl ?_
  unfold spec_l2Fault.f at H
  refine run_seq ?_
  refine run_region rfl ?_
  refine ox rfl rfl rfl rfl (ex_assign rfl rfl) ?_
  refine ops_nil (at_then (run_seq ?_))
  refine run_region rfl ?_
  refine ox rfl rfl rfl rfl (ex_move rfl rfl) ?_
  refine ox rfl rfl rfl rfl (ex_nilCheck rfl rfl) ?_
  refine ox rfl rfl rfl rfl (ex_fieldAddr (off' := f0) rfl rfl Tryz.underlying68 rfl tsz49 rfl) ?_
  refine ox rfl rfl rfl rfl (ex_load1 rfl rfl Tryz.underlying49 rfl ((HM.at_ hc0) 0 _ rfl)) ?_
  refine ox rfl rfl rfl rfl (ex_len (d := kInt) (xs := x0.fKeys) rfl rfl Tryz.underlying49 hp0_0) ?_
  refine ox rfl rfl rfl rfl (ex_assign rfl rfl) ?_
  refine ops_nil (at_then (run_seq ?_))
  refine run_seq ?_
  obtain ⟨t1018, h1019, H⟩ := bind_some H
  refine run_region rfl ?_
  refine ox rfl rfl rfl rfl (ex_move rfl rfl) ?_
  refine od rfl rfl rfl rfl (does_callk rfl callok22 rfl (spec_l1In.calls (x0 := (x0.fKeys.length : Int)) (x1 := 1) (x2 := 3) h1019)) ?_
  rintro _ w1020 ⟨rfl, hn⟩
  replace HM : Mem w [] w1020 [] := HM.call hn
  refine ox rfl rfl rfl rfl (ex_not rfl rfl) ?_
  refine ops_nil (at_then ?_)
  refine run_cond (b := !t1018) rfl (fun hb1021 => ?_) (fun hb1021 => ?_)
  · replace H := cond_t hb1021 H
    refine run_seq ?_
    refine run_region rfl ?_
    refine ox rfl rfl rfl rfl (ex_assign rfl rfl) ?_
    refine ops_nil (at_then ?_)
    refine run_ret ?_
    refine at_then_ret ?_
    have hR := Option.some.inj H
    subst hR
    exact at_ret1 rfl rfl ⟨_, rfl, rfl, HM⟩
  · replace H := cond_f hb1021 H
    refine run_skip ?_
    refine at_then ?_
    obtain ⟨o1041, ho1042, H⟩ := bind_some H
    refine run_mid (fun ρ_ w_ => Sum.inr () = o1041 ∧ ρ_ = [(0, .pointer (some ⟨b0, f0, none⟩)), (3, .int .i64 (x0.fKeys.length : Int))] ∧ Mem w [] w_ []) ?_ ?_
    · skip
      refine run_seq ?_
      refine run_region rfl ?_
      refine ox rfl rfl rfl rfl (ex_assign rfl rfl) ?_
      refine ops_nil (at_then ?_)
      refine run_block ?_
      refine run_loop (fun k_ ρ_ w_ => ∃ a1049 : Int, spec_l2Fault.l0 x0 k_ a1049 = some o1041 ∧ ρ_ = [(0, .pointer (some ⟨b0, f0, none⟩)), (3, .int .i64 (x0.fKeys.length : Int)), (4, .int .i64 a1049)] ∧ Mem w [] w_ []) k (ρ1 := [(0, .pointer (some ⟨b0, f0, none⟩)), (3, .int .i64 (x0.fKeys.length : Int)), (4, .int .i64 0)]) ⟨_, ho1042, rfl, HM⟩ (Sub.cons rfl (Sub.cons rfl (Sub.cons rfl Sub.nil))) ?_
      clear HM ho1042
      rintro k1056 _ w1057 ⟨a1049, ho1042, rfl, HM⟩
      obtain _ | k1056 := k1056
      · exact nomatch ((spec_l2Fault.l0_z x0 a1049).symm.trans ho1042)
      replace ho1042 := (spec_l2Fault.l0_s x0 k1056 a1049).symm.trans ho1042
      refine run_seq ?_
      refine run_seq ?_
      refine run_region rfl ?_
      refine ox rfl rfl rfl rfl (ex_move rfl rfl) ?_
      refine ox rfl rfl rfl rfl (ex_move rfl rfl) ?_
      refine ox rfl rfl rfl rfl (ex_nilCheck rfl rfl) ?_
      refine ox rfl rfl rfl rfl (ex_fieldAddr (off' := f0) rfl rfl Tryz.underlying68 rfl tsz49 rfl) ?_
      refine ox rfl rfl rfl rfl (ex_load1 rfl rfl Tryz.underlying49 rfl ((HM.at_ hc0) 0 _ rfl)) ?_
      refine ox rfl rfl rfl rfl (ex_len (d := kInt) (xs := x0.fKeys) rfl rfl Tryz.underlying49 hp0_0) ?_
      refine ox rfl rfl rfl rfl (ex_lss rfl rfl rfl) ?_
      refine ops_nil (at_then ?_)
      refine run_cond (b := (decide (a1049 < (x0.fKeys.length : Int)))) rfl (fun hb1058 => ?_) (fun hb1058 => ?_)
      · replace ho1042 := cond_t hb1058 ho1042
        refine run_skip ?_
        refine at_then ?_
        refine run_seq ?_
        refine run_block ?_
        refine run_seq ?_
        obtain ⟨e1059, ho1042⟩ := chk_some ho1042
        obtain ⟨t1061, h1062, ho1042⟩ := bind_some ho1042
        refine run_region rfl ?_
        refine ox rfl rfl rfl rfl (ex_move rfl rfl) ?_
        refine ox rfl rfl rfl rfl (ex_nilCheck rfl rfl) ?_
        refine ox rfl rfl rfl rfl (ex_fieldAddr (off' := f0) rfl rfl Tryz.underlying68 rfl tsz49 rfl) ?_
        refine ox rfl rfl rfl rfl (ex_load1 rfl rfl Tryz.underlying49 rfl ((HM.at_ hc0) 0 _ rfl)) ?_
        refine ox rfl rfl rfl rfl (ex_move rfl rfl) ?_
        have hc1060 : CellsAt _ (sb p0_0) (so p0_0 + (a1049).toNat * 1) [(.int .i64 (gt x0.fKeys a1049))] := rd_plain hp0_0 e1059
        refine ox rfl rfl rfl rfl (ex_indexAddr (d := kInt) rfl rfl rfl Tryz.underlying49 tsz2 hp0_0 (idx_lo e1059) (idx_hi e1059)) ?_
        refine ox rfl rfl rfl rfl (ex_load1 rfl rfl Tryz.underlying2 rfl ((HM.at_ hc1060) 0 _ rfl)) ?_
        refine od rfl rfl rfl rfl (does_callk rfl callok45 rfl (spec_l1Key.calls (x0 := (gt x0.fKeys a1049)) h1062)) ?_
        rintro _ w1063 ⟨rfl, hn⟩
        replace HM : Mem w [] w1063 [] := HM.call hn
        refine ox rfl rfl rfl rfl (ex_not rfl rfl) ?_
        refine ops_nil (at_then ?_)
        refine run_cond (b := !t1061) rfl (fun hb1064 => ?_) (fun hb1064 => ?_)
        · replace ho1042 := cond_t hb1064 ho1042
          refine run_seq ?_
          refine run_region rfl ?_
          refine ox rfl rfl rfl rfl (ex_assign rfl rfl) ?_
          refine ops_nil (at_then ?_)
          refine run_ret ?_
          refine at_block_ret ?_
          refine at_then_ret ?_
          refine at_then_ret ?_
          refine at_block_ret ?_
          refine at_then_ret ?_
          have hR := Option.some.inj ho1042
          subst hR
          have hT := thn_inl H
          have hR := Option.some.inj hT
          subst hR
          exact at_ret1 rfl rfl ⟨_, rfl, rfl, HM⟩
        · replace ho1042 := cond_f hb1064 ho1042
          refine run_skip ?_
          refine at_block ?_
          refine at_then ?_
          refine run_region rfl ?_
          refine ox rfl rfl rfl rfl (ex_move rfl rfl) ?_
          refine ox rfl rfl rfl rfl (ex_add rfl rfl rfl) ?_
          refine ox rfl rfl rfl rfl (ex_assign rfl rfl) ?_
          refine ops_nil ?_
          exact at_again k1056 (ρ1 := [(0, .pointer (some ⟨b0, f0, none⟩)), (3, .int .i64 (x0.fKeys.length : Int)), (4, .int .i64 (wrap64 (a1049 + 1)))]) (Nat.lt_succ_self _) ⟨_, ho1042, rfl, HM⟩ (Sub.cons rfl (Sub.cons rfl (Sub.cons rfl Sub.nil)))
      · replace ho1042 := cond_f hb1058 ho1042
        refine run_exit ?_
        refine at_then_exit ?_
        refine at_then_exit ?_
        refine at_block_exit ?_
        exact at_mid (ρ' := [(0, .pointer (some ⟨b0, f0, none⟩)), (3, .int .i64 (x0.fKeys.length : Int))]) ⟨(Option.some.inj ho1042), rfl, HM⟩ (Sub.cons rfl (Sub.cons rfl Sub.nil))
    · rintro _ w1065 ⟨rfl, rfl, HM⟩
      replace H := (thn_inr H)
      refine run_seq ?_
      refine run_seq ?_
      obtain ⟨t1071, h1072, H⟩ := bind_some H
      obtain ⟨t1073, h1074, H⟩ := bind_some H
      refine run_meet (fun ρ_ w_ => ρ_ = [(0, .pointer (some ⟨b0, f0, none⟩)), (46, .bool ((!t1071) || (!t1073)))] ∧ Mem w [] w_ []) ?_ ?_
      · skip
        refine run_region rfl ?_
        refine ox rfl rfl rfl rfl (ex_move rfl rfl) ?_
        refine ox rfl rfl rfl rfl (ex_nilCheck rfl rfl) ?_
        refine ox rfl rfl rfl rfl (ex_fieldAddr (off' := f0 + 1) rfl rfl Tryz.underlying68 rfl tsz2 rfl) ?_
        refine ox rfl rfl rfl rfl (ex_load1 rfl rfl Tryz.underlying2 rfl ((HM.at_ hc0) 1 _ rfl)) ?_
        refine ox rfl rfl rfl rfl (ex_move rfl rfl) ?_
        refine od rfl rfl rfl rfl (does_callk rfl callok22 rfl (spec_l1In.calls (x0 := x0.fNeed) (x1 := 1) (x2 := (x0.fKeys.length : Int)) h1072)) ?_
        rintro _ w1075 ⟨rfl, hn⟩
        replace HM : Mem w [] w1075 [] := HM.call hn
        refine ox rfl rfl rfl rfl (ex_not rfl rfl) ?_
        refine ox rfl rfl rfl rfl (ex_move rfl rfl) ?_
        refine bool_cases (!t1071) (fun hg1076 => ?_) (fun hg1076 => ?_)
        · skip
          refine ops_off rfl (guard_off rfl rfl rfl hg1076) rfl rfl ?_
          refine ops_off rfl (guard_off rfl rfl rfl hg1076) rfl rfl ?_
          refine ops_off rfl (guard_off rfl rfl rfl hg1076) rfl rfl ?_
          refine ops_off rfl (guard_off rfl rfl rfl hg1076) rfl rfl ?_
          refine ops_off rfl (guard_off rfl rfl rfl hg1076) rfl rfl ?_
          refine ops_off rfl (guard_off rfl rfl rfl hg1076) rfl rfl ?_
          have hg1077 : ((!t1071) || (!t1073)) = true := by simp only [hg1076, Bool.and_true, Bool.true_and, Bool.and_false, Bool.false_and, Bool.or_true, Bool.true_or, Bool.or_false, Bool.false_or, Bool.not_true, Bool.not_false, Bool.not_not]
          refine ops_ex (v := .bool ((!t1071) || (!t1073))) rfl (guard_none rfl) rfl rfl (ex_por_t rfl rfl hg1076) ?_
          refine ops_nil ?_
          exact at_meet [(0, .pointer (some ⟨b0, f0, none⟩)), (46, .bool ((!t1071) || (!t1073)))] ⟨rfl, HM⟩ (Sub.cons rfl (Sub.cons rfl Sub.nil))
        · skip
          refine ops_ex rfl (guard_on rfl rfl rfl hg1076) rfl rfl (ex_move rfl rfl) ?_
          refine ops_ex rfl (guard_on rfl rfl rfl hg1076) rfl rfl (ex_nilCheck rfl rfl) ?_
          refine ops_ex rfl (guard_on rfl rfl rfl hg1076) rfl rfl (ex_fieldAddr (off' := f0 + 2) rfl rfl Tryz.underlying68 rfl tsz2 rfl) ?_
          refine ops_ex rfl (guard_on rfl rfl rfl hg1076) rfl rfl (ex_load1 rfl rfl Tryz.underlying2 rfl ((HM.at_ hc0) 2 _ rfl)) ?_
          refine ops_does rfl (guard_on rfl rfl rfl hg1076) rfl rfl (does_callk rfl callok42 rfl (spec_l2Height.calls (x0 := x0.fAfter) (cond_t (not_mk hg1076) h1074))) ?_
          rintro _ w1078 ⟨rfl, hn⟩
          replace HM : Mem w [] w1078 [] := HM.call hn
          refine ops_ex rfl (guard_on rfl rfl rfl hg1076) rfl rfl (ex_not rfl rfl) ?_
          refine ops_ex (v := .bool ((!t1071) || (!t1073))) rfl (guard_none rfl) rfl rfl (ex_por_f rfl rfl hg1076 rfl) ?_
          refine ops_nil ?_
          exact at_meet [(0, .pointer (some ⟨b0, f0, none⟩)), (46, .bool ((!t1071) || (!t1073)))] ⟨rfl, HM⟩ (Sub.cons rfl (Sub.cons rfl Sub.nil))
      · rintro _ w1079 ⟨rfl, HM⟩
        refine at_then ?_
        refine run_cond (b := ((!t1071) || (!t1073))) rfl (fun hb1080 => ?_) (fun hb1080 => ?_)
        · replace H := cond_t hb1080 H
          refine run_seq ?_
          refine run_region rfl ?_
          refine ox rfl rfl rfl rfl (ex_assign rfl rfl) ?_
          refine ops_nil (at_then ?_)
          refine run_ret ?_
          refine at_then_ret ?_
          have hR := Option.some.inj H
          subst hR
          exact at_ret1 rfl rfl ⟨_, rfl, rfl, HM⟩
        · replace H := cond_f hb1080 H
          refine run_skip ?_
          refine at_then ?_
          obtain ⟨o1100, ho1101, H⟩ := bind_some H
          refine run_mid (fun ρ_ w_ => Sum.inr () = o1100 ∧ ρ_ = [] ∧ Mem w [] w_ []) ?_ ?_
          · skip
            refine run_seq ?_
            refine run_region rfl ?_
            refine ox rfl rfl rfl rfl (ex_assign rfl rfl) ?_
            refine ops_nil (at_then ?_)
            refine run_block ?_
            refine run_loop (fun k_ ρ_ w_ => ∃ a1108 : Int, spec_l2Fault.l1 x0 k_ a1108 = some o1100 ∧ ρ_ = [(0, .pointer (some ⟨b0, f0, none⟩)), (5, .int .i64 a1108)] ∧ Mem w [] w_ []) k (ρ1 := [(0, .pointer (some ⟨b0, f0, none⟩)), (5, .int .i64 1)]) ⟨_, ho1101, rfl, HM⟩ (Sub.cons rfl (Sub.cons rfl Sub.nil)) ?_
            clear HM ho1101
            rintro k1115 _ w1116 ⟨a1108, ho1101, rfl, HM⟩
            obtain _ | k1115 := k1115
            · exact nomatch ((spec_l2Fault.l1_z x0 a1108).symm.trans ho1101)
            replace ho1101 := (spec_l2Fault.l1_s x0 k1115 a1108).symm.trans ho1101
            refine run_seq ?_
            refine run_seq ?_
            refine run_region rfl ?_
            refine ox rfl rfl rfl rfl (ex_move rfl rfl) ?_
            refine ox rfl rfl rfl rfl (ex_move rfl rfl) ?_
            refine ox rfl rfl rfl rfl (ex_nilCheck rfl rfl) ?_
            refine ox rfl rfl rfl rfl (ex_fieldAddr (off' := f0) rfl rfl Tryz.underlying68 rfl tsz49 rfl) ?_
            refine ox rfl rfl rfl rfl (ex_load1 rfl rfl Tryz.underlying49 rfl ((HM.at_ hc0) 0 _ rfl)) ?_
            refine ox rfl rfl rfl rfl (ex_len (d := kInt) (xs := x0.fKeys) rfl rfl Tryz.underlying49 hp0_0) ?_
            refine ox rfl rfl rfl rfl (ex_lss rfl rfl rfl) ?_
            refine ops_nil (at_then ?_)
            refine run_cond (b := (decide (a1108 < (x0.fKeys.length : Int)))) rfl (fun hb1117 => ?_) (fun hb1117 => ?_)
            · replace ho1101 := cond_t hb1117 ho1101
              refine run_skip ?_
              refine at_then ?_
              refine run_seq ?_
              refine run_block ?_
              refine run_seq ?_
              obtain ⟨e1118, ho1101⟩ := chk_some ho1101
              obtain ⟨e1120, ho1101⟩ := chk_some ho1101
              refine run_drawf (fun w_ => Mem w [] w_ []) [(0, true), (1, true), (2, true), (3, true), (4, true), (5, true), (6, true), (7, true), (8, true), (9, true), (10, true), (11, true), (12, true), (13, true), (14, true), (15, true)] mixed rfl rfl (by kernel_rfl) ?_
              replace HM := HM.grow (fr_drew _)
              have hS := Mem.suf (M := []) HM
              refine dp rfl rfl rfl rfl (ex_move rfl rfl) hS ?_
              refine dp rfl rfl rfl rfl (ex_nilCheck rfl rfl) hS ?_
              refine dp rfl rfl rfl rfl (ex_fieldAddr (off' := f0) rfl rfl Tryz.underlying68 rfl tsz49 rfl) hS ?_
              refine drwp_take rfl (guard_none rfl) rfl rfl (fun w_ hS_ => (ex_load1 rfl rfl Tryz.underlying49 rfl ((hS_.at_ hc0) 0 _ rfl))) hS ?_
              refine dp rfl rfl rfl rfl (ex_move rfl rfl) hS ?_
              have hc1119 : CellsAt _ (sb p0_0) (so p0_0 + (a1108).toNat * 1) [(.int .i64 (gt x0.fKeys a1108))] := rd_plain hp0_0 e1118
              refine dp rfl rfl rfl rfl (ex_indexAddr (d := kInt) rfl rfl rfl Tryz.underlying49 tsz2 hp0_0 (idx_lo e1118) (idx_hi e1118)) hS ?_
              refine drwp_take rfl (guard_none rfl) rfl rfl (fun w_ hS_ => (ex_load1 rfl rfl Tryz.underlying2 rfl ((hS_.at_ hc1119) 0 _ rfl))) hS ?_
              refine dp rfl rfl rfl rfl (ex_move rfl rfl) hS ?_
              refine dp rfl rfl rfl rfl (ex_nilCheck rfl rfl) hS ?_
              refine dp rfl rfl rfl rfl (ex_fieldAddr (off' := f0) rfl rfl Tryz.underlying68 rfl tsz49 rfl) hS ?_
              refine drwp_take rfl (guard_none rfl) rfl rfl (fun w_ hS_ => (ex_load1 rfl rfl Tryz.underlying49 rfl ((hS_.at_ hc0) 0 _ rfl))) hS ?_
              refine dp rfl rfl rfl rfl (ex_move rfl rfl) hS ?_
              refine dp rfl rfl rfl rfl (ex_sub rfl rfl rfl) hS ?_
              have hc1121 : CellsAt _ (sb p0_0) (so p0_0 + (wrap64 (a1108 - 1)).toNat * 1) [(.int .i64 (gt x0.fKeys (wrap64 (a1108 - 1))))] := rd_plain hp0_0 e1120
              refine dp rfl rfl rfl rfl (ex_indexAddr (d := kInt) rfl rfl rfl Tryz.underlying49 tsz2 hp0_0 (idx_lo e1120) (idx_hi e1120)) hS ?_
              refine drwp_take rfl (guard_none rfl) rfl rfl (fun w_ hS_ => (ex_load1 rfl rfl Tryz.underlying2 rfl ((hS_.at_ hc1121) 0 _ rfl))) hS ?_
              refine dp rfl rfl rfl rfl (ex_leq rfl rfl rfl) hS ?_
              refine drwp_done ?_
              refine at_then ?_
              refine run_cond (b := (decide ((gt x0.fKeys a1108) ≤ (gt x0.fKeys (wrap64 (a1108 - 1)))))) rfl (fun hb1122 => ?_) (fun hb1122 => ?_)
              · replace ho1101 := cond_t hb1122 ho1101
                refine run_seq ?_
                refine run_region rfl ?_
                refine ox rfl rfl rfl rfl (ex_assign rfl rfl) ?_
                refine ops_nil (at_then ?_)
                refine run_ret ?_
                refine at_block_ret ?_
                refine at_then_ret ?_
                refine at_then_ret ?_
                refine at_block_ret ?_
                refine at_then_ret ?_
                have hR := Option.some.inj ho1101
                subst hR
                have hT := thn_inl H
                have hR := Option.some.inj hT
                subst hR
                exact at_ret1 rfl rfl ⟨_, rfl, rfl, HM⟩
              · replace ho1101 := cond_f hb1122 ho1101
                refine run_skip ?_
                refine at_block ?_
                refine at_then ?_
                refine run_region rfl ?_
                refine ox rfl rfl rfl rfl (ex_move rfl rfl) ?_
                refine ox rfl rfl rfl rfl (ex_add rfl rfl rfl) ?_
                refine ox rfl rfl rfl rfl (ex_assign rfl rfl) ?_
                refine ops_nil ?_
                exact at_again k1115 (ρ1 := [(0, .pointer (some ⟨b0, f0, none⟩)), (5, .int .i64 (wrap64 (a1108 + 1)))]) (Nat.lt_succ_self _) ⟨_, ho1101, rfl, HM⟩ (Sub.cons rfl (Sub.cons rfl Sub.nil))
            · replace ho1101 := cond_f hb1117 ho1101
              refine run_exit ?_
              refine at_then_exit ?_
              refine at_then_exit ?_
              refine at_block_exit ?_
              exact at_mid (ρ' := []) ⟨(Option.some.inj ho1101), rfl, HM⟩ Sub.nil
          · rintro _ w1123 ⟨rfl, rfl, HM⟩
            replace H := (thn_inr H)
            refine run_seq ?_
            refine run_region rfl ?_
            refine ox rfl rfl rfl rfl (ex_assign rfl rfl) ?_
            refine ops_nil (at_then ?_)
            refine run_ret ?_
            have hR := Option.some.inj H
            subst hR
            exact at_ret1 rfl rfl ⟨_, rfl, rfl, HM⟩

def spec_l4Out.f (k : Nat) (x0 : Out) : Option Int := ((spec_l1In.f k x0.fValue 1 1000000).bind fun t1129 => (bif !t1129 then some 3 else ((spec_l2Fault.f k x0.fRule).bind fun t1133 => some t1133)))
theorem spec_l4Out.calls {k : Nat} {x0 : Out} {b0 f0 : Nat} {p0_0 : Value} {w : World} (hc0 : CellsAt w b0 f0 [.int .i64 x0.fValue, p0_0, .int .i64 x0.fRule.fNeed, .int .i64 x0.fRule.fAfter]) (hp0_0 : RdS kInt w p0_0 x0.fRule.fKeys) {r : Int} (H : spec_l4Out.f k x0 = some r) :
    Calls Tryz.prog 43 ([.pointer (some ⟨b0, f0, none⟩)] : List Value).toArray w (fun e w_ => ∃ v, e = .returned v ∧ v = (.int .i64 r) ∧ Mem w [] w_ []) := by
  have HM := Mem.start w
  refine calls_run (N := 13) Tryz.func43 rfl rfl rfl rfl ?_
  unfold spec_l4Out.f at H
  refine run_seq ?_
  refine run_region rfl ?_
  refine ox rfl rfl rfl rfl (ex_assign rfl rfl) ?_
  refine ops_nil (at_then (run_seq ?_))
  refine run_seq ?_
  obtain ⟨t1129, h1130, H⟩ := bind_some H
  refine run_region rfl ?_
  refine ox rfl rfl rfl rfl (ex_move rfl rfl) ?_
  refine ox rfl rfl rfl rfl (ex_nilCheck rfl rfl) ?_
  refine ox rfl rfl rfl rfl (ex_fieldAddr (off' := f0) rfl rfl Tryz.underlying70 rfl tsz2 rfl) ?_
  refine ox rfl rfl rfl rfl (ex_load1 rfl rfl Tryz.underlying2 rfl ((HM.at_ hc0) 0 _ rfl)) ?_
  refine od rfl rfl rfl rfl (does_callk rfl callok22 rfl (spec_l1In.calls (x0 := x0.fValue) (x1 := 1) (x2 := 1000000) h1130)) ?_
  rintro _ w1131 ⟨rfl, hn⟩
  replace HM : Mem w [] w1131 [] := HM.call hn
  refine ox rfl rfl rfl rfl (ex_not rfl rfl) ?_
  refine ops_nil (at_then ?_)
  refine run_cond (b := !t1129) rfl (fun hb1132 => ?_) (fun hb1132 => ?_)
  · replace H := cond_t hb1132 H
    refine run_seq ?_
    refine run_region rfl ?_
    refine ox rfl rfl rfl rfl (ex_assign rfl rfl) ?_
    refine ops_nil (at_then ?_)
    refine run_ret ?_
    refine at_then_ret ?_
    have hR := Option.some.inj H
    subst hR
    exact at_ret1 rfl rfl ⟨_, rfl, rfl, HM⟩
  · replace H := cond_f hb1132 H
    refine run_skip ?_
    refine at_then ?_
    refine run_seq ?_
    obtain ⟨t1133, h1134, H⟩ := bind_some H
    refine run_region rfl ?_
    refine ox rfl rfl rfl rfl (ex_move rfl rfl) ?_
    refine ox rfl rfl rfl rfl (ex_nilCheck rfl rfl) ?_
    refine ox rfl rfl rfl rfl (ex_fieldAddr (off' := f0 + 1) rfl rfl Tryz.underlying70 rfl tsz68 rfl) ?_
    refine od rfl rfl rfl rfl (does_callk rfl callok76 rfl (spec_l2Fault.calls (x0 := x0.fRule) (CellsAt.sub (HM.at_ hc0) 1 3 rfl) (HM.rd hp0_0) h1134)) ?_
    rintro _ w1135 ⟨rfl, hn⟩
    replace HM : Mem w [] w1135 [] := HM.call hn
    refine ox rfl rfl rfl rfl (ex_assign rfl rfl) ?_
    refine ops_nil (at_then ?_)
    refine run_ret ?_
    have hR := Option.some.inj H
    subst hR
    exact at_ret1 rfl rfl ⟨_, rfl, rfl, HM⟩

def spec_l4Ahead.f (k : Nat) (x0 : Ref) (x1 : Ref) : Option Bool := (bif (x0.fTx != x1.fTx) then some (decide (x0.fTx < x1.fTx)) else some (decide (x0.fAt < x1.fAt)))
theorem spec_l4Ahead.calls {k : Nat} {x0 : Ref} {x1 : Ref}  {w : World}  {r : Bool} (H : spec_l4Ahead.f k x0 x1 = some r) :
    Calls Tryz.prog 44 ([.agg #[(.int .i64 x0.fTx), (.int .i64 x0.fAt)], .agg #[(.int .i64 x1.fTx), (.int .i64 x1.fAt)]] : List Value).toArray w (fun e w_ => ∃ v, e = .returned v ∧ v = (.bool r) ∧ Mem w [] w_ []) := by
  have HM := Mem.start w
  refine calls_run (N := 20) Tryz.func44 rfl rfl rfl rfl ?_
  unfold spec_l4Ahead.f at H
  refine run_seq ?_
  refine run_region rfl ?_
  refine od rfl rfl rfl rfl (does_box (cs := [.int .i64 x0.fTx, .int .i64 x0.fAt]) rfl rfl rfl HM) ?_
  rintro _ w1168 ⟨b1162, rfl, HM⟩
  refine od rfl rfl rfl rfl (does_box (cs := [.int .i64 x1.fTx, .int .i64 x1.fAt]) rfl rfl rfl HM) ?_
  rintro _ w1169 ⟨b1165, rfl, HM⟩
  refine ox rfl rfl rfl rfl (ex_assign rfl rfl) ?_
  refine ops_nil (at_then (run_seq ?_))
  refine run_seq ?_
  refine run_region rfl ?_
  refine ox rfl rfl rfl rfl (ex_fieldAddr (off' := 0) rfl rfl Tryz.underlying66 rfl tsz2 rfl) ?_
  refine ox rfl rfl rfl rfl (ex_load1 rfl rfl Tryz.underlying2 rfl ((HM.box_at 1 rfl) 0 _ rfl)) ?_
  refine ox rfl rfl rfl rfl (ex_fieldAddr (off' := 0) rfl rfl Tryz.underlying66 rfl tsz2 rfl) ?_
  refine ox rfl rfl rfl rfl (ex_load1 rfl rfl Tryz.underlying2 rfl ((HM.box_at 0 rfl) 0 _ rfl)) ?_
  refine ox rfl rfl rfl rfl (ex_neq rfl rfl rfl) ?_
  refine ops_nil (at_then ?_)
  refine run_cond (b := (x0.fTx != x1.fTx)) rfl (fun hb1171 => ?_) (fun hb1171 => ?_)
  · replace H := cond_t hb1171 H
    refine run_seq ?_
    refine run_region rfl ?_
    refine ox rfl rfl rfl rfl (ex_fieldAddr (off' := 0) rfl rfl Tryz.underlying66 rfl tsz2 rfl) ?_
    refine ox rfl rfl rfl rfl (ex_load1 rfl rfl Tryz.underlying2 rfl ((HM.box_at 1 rfl) 0 _ rfl)) ?_
    refine ox rfl rfl rfl rfl (ex_fieldAddr (off' := 0) rfl rfl Tryz.underlying66 rfl tsz2 rfl) ?_
    refine ox rfl rfl rfl rfl (ex_load1 rfl rfl Tryz.underlying2 rfl ((HM.box_at 0 rfl) 0 _ rfl)) ?_
    refine ox rfl rfl rfl rfl (ex_lss rfl rfl rfl) ?_
    refine ox rfl rfl rfl rfl (ex_assign rfl rfl) ?_
    refine ops_nil (at_then ?_)
    refine run_ret ?_
    refine at_then_ret ?_
    replace HM := (HM.front 0 rfl rfl).drop
    replace HM := (HM.front 0 rfl rfl).drop
    have hR := Option.some.inj H
    subst hR
    exact at_ret1 rfl rfl ⟨_, rfl, rfl, HM⟩
  · replace H := cond_f hb1171 H
    refine run_skip ?_
    refine at_then ?_
    refine run_seq ?_
    refine run_region rfl ?_
    refine ox rfl rfl rfl rfl (ex_fieldAddr (off' := 1) rfl rfl Tryz.underlying66 rfl tsz2 rfl) ?_
    refine ox rfl rfl rfl rfl (ex_load1 rfl rfl Tryz.underlying2 rfl ((HM.box_at 1 rfl) 1 _ rfl)) ?_
    refine ox rfl rfl rfl rfl (ex_fieldAddr (off' := 1) rfl rfl Tryz.underlying66 rfl tsz2 rfl) ?_
    refine ox rfl rfl rfl rfl (ex_load1 rfl rfl Tryz.underlying2 rfl ((HM.box_at 0 rfl) 1 _ rfl)) ?_
    refine ox rfl rfl rfl rfl (ex_lss rfl rfl rfl) ?_
    refine ox rfl rfl rfl rfl (ex_assign rfl rfl) ?_
    refine ops_nil (at_then ?_)
    refine run_ret ?_
    replace HM := (HM.front 0 rfl rfl).drop
    replace HM := (HM.front 0 rfl rfl).drop
    have hR := Option.some.inj H
    subst hR
    exact at_ret1 rfl rfl ⟨_, rfl, rfl, HM⟩

def spec_l4Fault.l0 (x0 : List Coin) : Nat → Int → Option (Int ⊕ Unit)
  | 0, _ => none
  | k + 1, a1495 => (bif (decide (a1495 < (x0.length : Int))) then (chk (idxOk a1495 x0.length) ((spec_l3Ref.f k ((gt x0 a1495).fRef)).bind fun t1568 => (chk (!(!(!t1568)) || (idxOk a1495 x0.length)) ((bif (!(!t1568)) then spec_l2Height.f k ((gt x0 a1495).fHeight) else some default).bind fun t1574 => (bif ((!t1568) || (!t1574)) then some (.inl 3) else (chk (idxOk a1495 x0.length) ((spec_l4Out.f k ((gt x0 a1495).fOut)).bind fun t1593 => (bif (t1593 != 0) then some (.inl t1593) else (chk (!(decide (0 < a1495)) || (idxOk (wrap64 (a1495 - 1)) x0.length)) (chk (!(decide (0 < a1495)) || (idxOk a1495 x0.length)) ((bif (decide (0 < a1495)) then spec_l4Ahead.f k ((gt x0 (wrap64 (a1495 - 1))).fRef) ((gt x0 a1495).fRef) else some default).bind fun t1605 => (bif ((decide (0 < a1495)) && (!t1605)) then some (.inl 1) else spec_l4Fault.l0 x0 k (wrap64 (a1495 + 1)))))))))))))) else some (.inr ()))
theorem spec_l4Fault.l0_z (x0 : List Coin) (a1495 : Int) : spec_l4Fault.l0 x0 0 a1495 = none := rfl
theorem spec_l4Fault.l0_s (x0 : List Coin) (k : Nat) (a1495 : Int) : spec_l4Fault.l0 x0 (k + 1) a1495 = (bif (decide (a1495 < (x0.length : Int))) then (chk (idxOk a1495 x0.length) ((spec_l3Ref.f k ((gt x0 a1495).fRef)).bind fun t1568 => (chk (!(!(!t1568)) || (idxOk a1495 x0.length)) ((bif (!(!t1568)) then spec_l2Height.f k ((gt x0 a1495).fHeight) else some default).bind fun t1574 => (bif ((!t1568) || (!t1574)) then some (.inl 3) else (chk (idxOk a1495 x0.length) ((spec_l4Out.f k ((gt x0 a1495).fOut)).bind fun t1593 => (bif (t1593 != 0) then some (.inl t1593) else (chk (!(decide (0 < a1495)) || (idxOk (wrap64 (a1495 - 1)) x0.length)) (chk (!(decide (0 < a1495)) || (idxOk a1495 x0.length)) ((bif (decide (0 < a1495)) then spec_l4Ahead.f k ((gt x0 (wrap64 (a1495 - 1))).fRef) ((gt x0 a1495).fRef) else some default).bind fun t1605 => (bif ((decide (0 < a1495)) && (!t1605)) then some (.inl 1) else spec_l4Fault.l0 x0 k (wrap64 (a1495 + 1)))))))))))))) else some (.inr ())) := rfl
def spec_l4Fault.f (k : Nat) (x0 : List Coin) : Option Int := (bif (decide (40 < (x0.length : Int))) then some 2 else ((spec_l4Fault.l0 x0 k 0).bind fun o1441 => thn o1441 (fun r => some r) (fun _ => some 0)))
theorem spec_l4Fault.calls {k : Nat} {x0 : List Coin} {p0 : Value} {w : World} (hp0 : RdS kCoin w p0 x0) {r : Int} (H : spec_l4Fault.f k x0 = some r) :
    Calls Tryz.prog 20 ([p0] : List Value).toArray w (fun e w_ => ∃ v, e = .returned v ∧ v = (.int .i64 r) ∧ Mem w [] w_ []) := by
  have HM := Mem.start w
  refine calls_run (N := 55) Tryz.func20 rfl rfl rfl rfl ?_
  unfold spec_l4Fault.f at H
  refine run_seq ?_
  refine run_region rfl ?_
  refine ox rfl rfl rfl rfl (ex_assign rfl rfl) ?_
  refine ops_nil (at_then (run_seq ?_))
  refine run_seq ?_
  refine run_region rfl ?_
  refine ox rfl rfl rfl rfl (ex_move rfl rfl) ?_
  refine ox rfl rfl rfl rfl (ex_len (d := kCoin) (xs := x0) rfl rfl Tryz.underlying29 hp0) ?_
  refine ox rfl rfl rfl rfl (ex_gtr rfl rfl rfl) ?_
  refine ops_nil (at_then ?_)
  refine run_cond (b := (decide (40 < (x0.length : Int)))) rfl (fun hb1283 => ?_) (fun hb1283 => ?_)
  · replace H := cond_t hb1283 H
    refine run_seq ?_
    refine run_region rfl ?_
    refine ox rfl rfl rfl rfl (ex_assign rfl rfl) ?_
    refine ops_nil (at_then ?_)
    refine run_ret ?_
    refine at_then_ret ?_
    have hR := Option.some.inj H
    subst hR
    exact at_ret1 rfl rfl ⟨_, rfl, rfl, HM⟩
  · replace H := cond_f hb1283 H
    refine run_skip ?_
    refine at_then ?_
    obtain ⟨o1441, ho1442, H⟩ := bind_some H
    refine run_mid (fun ρ_ w_ => Sum.inr () = o1441 ∧ ρ_ = [] ∧ Mem w [] w_ []) ?_ ?_
    · skip
      refine run_seq ?_
      refine run_region rfl ?_
      refine ox rfl rfl rfl rfl (ex_assign rfl rfl) ?_
      refine ops_nil (at_then ?_)
      refine run_block ?_
      refine run_loop (fun k_ ρ_ w_ => ∃ a1495 : Int, spec_l4Fault.l0 x0 k_ a1495 = some o1441 ∧ ρ_ = [(0, p0), (3, .int .i64 a1495)] ∧ Mem w [] w_ []) k (ρ1 := [(0, p0), (3, .int .i64 0)]) ⟨_, ho1442, rfl, HM⟩ (Sub.cons rfl (Sub.cons rfl Sub.nil)) ?_
      clear HM ho1442
      rintro k1548 _ w1549 ⟨a1495, ho1442, rfl, HM⟩
      obtain _ | k1548 := k1548
      · exact nomatch ((spec_l4Fault.l0_z x0 a1495).symm.trans ho1442)
      replace ho1442 := (spec_l4Fault.l0_s x0 k1548 a1495).symm.trans ho1442
      refine run_seq ?_
      refine run_seq ?_
      refine run_region rfl ?_
      refine ox rfl rfl rfl rfl (ex_move rfl rfl) ?_
      refine ox rfl rfl rfl rfl (ex_move rfl rfl) ?_
      refine ox rfl rfl rfl rfl (ex_len (d := kCoin) (xs := x0) rfl rfl Tryz.underlying29 hp0) ?_
      refine ox rfl rfl rfl rfl (ex_lss rfl rfl rfl) ?_
      refine ops_nil (at_then ?_)
      refine run_cond (b := (decide (a1495 < (x0.length : Int)))) rfl (fun hb1550 => ?_) (fun hb1550 => ?_)
      · replace ho1442 := cond_t hb1550 ho1442
        refine run_skip ?_
        refine at_then ?_
        refine run_seq ?_
        refine run_block ?_
        refine run_seq ?_
        refine run_seq ?_
        obtain ⟨e1564, ho1442⟩ := chk_some ho1442
        obtain ⟨t1568, h1569, ho1442⟩ := bind_some ho1442
        obtain ⟨e1570, ho1442⟩ := chk_some ho1442
        obtain ⟨t1574, h1575, ho1442⟩ := bind_some ho1442
        refine run_meet (fun ρ_ w_ => ρ_ = [(0, p0), (3, .int .i64 a1495), (29, .bool ((!t1568) || (!t1574)))] ∧ Mem w [] w_ []) ?_ ?_
        · skip
          refine run_region rfl ?_
          refine ox rfl rfl rfl rfl (ex_move rfl rfl) ?_
          refine ox rfl rfl rfl rfl (ex_move rfl rfl) ?_
          obtain ⟨kv1566, hc1565, hk1567⟩ : ∃ u, CellsAt _ (sb p0) (so p0 + (a1495).toNat * 8) [(.int .i64 ((gt x0 a1495).fRef.fTx)), (.int .i64 ((gt x0 a1495).fRef.fAt)), (.int .i64 ((gt x0 a1495).fOut.fValue)), u, (.int .i64 ((gt x0 a1495).fOut.fRule.fNeed)), (.int .i64 ((gt x0 a1495).fOut.fRule.fAfter)), (.int .i64 ((gt x0 a1495).fHeight)), (.bool ((gt x0 a1495).fMined))] ∧ RdS kInt _ u ((gt x0 a1495).fOut.fRule.fKeys) := rd_with1 hp0 e1564
          refine ox rfl rfl rfl rfl (ex_indexAddr (d := kCoin) rfl rfl rfl Tryz.underlying29 tsz72 hp0 (idx_lo e1564) (idx_hi e1564)) ?_
          refine ox rfl rfl rfl rfl (ex_fieldAddr (off' := so p0 + (a1495).toNat * 8) rfl rfl Tryz.underlying72 rfl tsz66 rfl) ?_
          refine ox rfl rfl rfl rfl (ex_loadN (cs := [(.int .i64 ((gt x0 a1495).fRef.fTx)), (.int .i64 ((gt x0 a1495).fRef.fAt))]) rfl rfl Tryz.underlying66 rfl tsz66 rfl ((HM.at_ hc1565).sub 0 2 rfl)) ?_
          refine od rfl rfl rfl rfl (does_callk rfl callok41 rfl (spec_l3Ref.calls (x0 := (gt x0 a1495).fRef) h1569)) ?_
          rintro _ w1576 ⟨rfl, hn⟩
          replace HM : Mem w [] w1576 [] := HM.call hn
          refine ox rfl rfl rfl rfl (ex_not rfl rfl) ?_
          refine ox rfl rfl rfl rfl (ex_move rfl rfl) ?_
          refine bool_cases (!t1568) (fun hg1577 => ?_) (fun hg1577 => ?_)
          · skip
            refine ops_off rfl (guard_off rfl rfl rfl hg1577) rfl rfl ?_
            refine ops_off rfl (guard_off rfl rfl rfl hg1577) rfl rfl ?_
            refine ops_off rfl (guard_off rfl rfl rfl hg1577) rfl rfl ?_
            refine ops_off rfl (guard_off rfl rfl rfl hg1577) rfl rfl ?_
            refine ops_off rfl (guard_off rfl rfl rfl hg1577) rfl rfl ?_
            refine ops_off rfl (guard_off rfl rfl rfl hg1577) rfl rfl ?_
            refine ops_off rfl (guard_off rfl rfl rfl hg1577) rfl rfl ?_
            have hg1578 : ((!t1568) || (!t1574)) = true := by simp only [hg1577, Bool.and_true, Bool.true_and, Bool.and_false, Bool.false_and, Bool.or_true, Bool.true_or, Bool.or_false, Bool.false_or, Bool.not_true, Bool.not_false, Bool.not_not]
            refine ops_ex (v := .bool ((!t1568) || (!t1574))) rfl (guard_none rfl) rfl rfl (ex_por_t rfl rfl hg1577) ?_
            refine ops_nil ?_
            exact at_meet [(0, p0), (3, .int .i64 a1495), (29, .bool ((!t1568) || (!t1574)))] ⟨rfl, HM⟩ (Sub.cons rfl (Sub.cons rfl (Sub.cons rfl Sub.nil)))
          · skip
            refine ops_ex rfl (guard_on rfl rfl rfl hg1577) rfl rfl (ex_move rfl rfl) ?_
            refine ops_ex rfl (guard_on rfl rfl rfl hg1577) rfl rfl (ex_move rfl rfl) ?_
            obtain ⟨kv1572, hc1571, hk1573⟩ : ∃ u, CellsAt _ (sb p0) (so p0 + (a1495).toNat * 8) [(.int .i64 ((gt x0 a1495).fRef.fTx)), (.int .i64 ((gt x0 a1495).fRef.fAt)), (.int .i64 ((gt x0 a1495).fOut.fValue)), u, (.int .i64 ((gt x0 a1495).fOut.fRule.fNeed)), (.int .i64 ((gt x0 a1495).fOut.fRule.fAfter)), (.int .i64 ((gt x0 a1495).fHeight)), (.bool ((gt x0 a1495).fMined))] ∧ RdS kInt _ u ((gt x0 a1495).fOut.fRule.fKeys) := rd_with1 hp0 (or_t e1570 (not_mk hg1577))
            refine ops_ex rfl (guard_on rfl rfl rfl hg1577) rfl rfl (ex_indexAddr (d := kCoin) rfl rfl rfl Tryz.underlying29 tsz72 hp0 (idx_lo (or_t e1570 (not_mk hg1577))) (idx_hi (or_t e1570 (not_mk hg1577)))) ?_
            refine ops_ex rfl (guard_on rfl rfl rfl hg1577) rfl rfl (ex_fieldAddr (off' := so p0 + (a1495).toNat * 8 + 6) rfl rfl Tryz.underlying72 rfl tsz2 rfl) ?_
            refine ops_ex rfl (guard_on rfl rfl rfl hg1577) rfl rfl (ex_load1 rfl rfl Tryz.underlying2 rfl ((HM.at_ hc1571) 6 _ rfl)) ?_
            refine ops_does rfl (guard_on rfl rfl rfl hg1577) rfl rfl (does_callk rfl callok42 rfl (spec_l2Height.calls (x0 := (gt x0 a1495).fHeight) (cond_t (not_mk hg1577) h1575))) ?_
            rintro _ w1579 ⟨rfl, hn⟩
            replace HM : Mem w [] w1579 [] := HM.call hn
            refine ops_ex rfl (guard_on rfl rfl rfl hg1577) rfl rfl (ex_not rfl rfl) ?_
            refine ops_ex (v := .bool ((!t1568) || (!t1574))) rfl (guard_none rfl) rfl rfl (ex_por_f rfl rfl hg1577 rfl) ?_
            refine ops_nil ?_
            exact at_meet [(0, p0), (3, .int .i64 a1495), (29, .bool ((!t1568) || (!t1574)))] ⟨rfl, HM⟩ (Sub.cons rfl (Sub.cons rfl (Sub.cons rfl Sub.nil)))
        · rintro _ w1580 ⟨rfl, HM⟩
          refine at_then ?_
          refine run_cond (b := ((!t1568) || (!t1574))) rfl (fun hb1581 => ?_) (fun hb1581 => ?_)
          · replace ho1442 := cond_t hb1581 ho1442
            refine run_seq ?_
            refine run_region rfl ?_
            refine ox rfl rfl rfl rfl (ex_assign rfl rfl) ?_
            refine ops_nil (at_then ?_)
            refine run_ret ?_
            refine at_then_ret ?_
            refine at_block_ret ?_
            refine at_then_ret ?_
            refine at_then_ret ?_
            refine at_block_ret ?_
            refine at_then_ret ?_
            have hR := Option.some.inj ho1442
            subst hR
            have hT := thn_inl H
            have hR := Option.some.inj hT
            subst hR
            exact at_ret1 rfl rfl ⟨_, rfl, rfl, HM⟩
          · replace ho1442 := cond_f hb1581 ho1442
            refine run_skip ?_
            refine at_then ?_
            refine run_seq ?_
            refine run_seq ?_
            obtain ⟨e1589, ho1442⟩ := chk_some ho1442
            obtain ⟨t1593, h1594, ho1442⟩ := bind_some ho1442
            refine run_region rfl ?_
            refine ox rfl rfl rfl rfl (ex_move rfl rfl) ?_
            refine ox rfl rfl rfl rfl (ex_move rfl rfl) ?_
            obtain ⟨kv1591, hc1590, hk1592⟩ : ∃ u, CellsAt _ (sb p0) (so p0 + (a1495).toNat * 8) [(.int .i64 ((gt x0 a1495).fRef.fTx)), (.int .i64 ((gt x0 a1495).fRef.fAt)), (.int .i64 ((gt x0 a1495).fOut.fValue)), u, (.int .i64 ((gt x0 a1495).fOut.fRule.fNeed)), (.int .i64 ((gt x0 a1495).fOut.fRule.fAfter)), (.int .i64 ((gt x0 a1495).fHeight)), (.bool ((gt x0 a1495).fMined))] ∧ RdS kInt _ u ((gt x0 a1495).fOut.fRule.fKeys) := rd_with1 hp0 e1589
            refine ox rfl rfl rfl rfl (ex_indexAddr (d := kCoin) rfl rfl rfl Tryz.underlying29 tsz72 hp0 (idx_lo e1589) (idx_hi e1589)) ?_
            refine ox rfl rfl rfl rfl (ex_fieldAddr (off' := so p0 + (a1495).toNat * 8 + 2) rfl rfl Tryz.underlying72 rfl tsz70 rfl) ?_
            refine od rfl rfl rfl rfl (does_callk rfl callok43 rfl (spec_l4Out.calls (x0 := (gt x0 a1495).fOut) (CellsAt.sub (HM.at_ hc1590) 2 4 rfl) (HM.rd hk1592) h1594)) ?_
            rintro _ w1595 ⟨rfl, hn⟩
            replace HM : Mem w [] w1595 [] := HM.call hn
            refine ox rfl rfl rfl rfl (ex_assign rfl rfl) ?_
            refine ops_nil (at_then (run_seq ?_))
            refine run_region rfl ?_
            refine ox rfl rfl rfl rfl (ex_move rfl rfl) ?_
            refine ox rfl rfl rfl rfl (ex_neq rfl rfl rfl) ?_
            refine ops_nil (at_then ?_)
            refine run_cond (b := (t1593 != 0)) rfl (fun hb1596 => ?_) (fun hb1596 => ?_)
            · replace ho1442 := cond_t hb1596 ho1442
              refine run_seq ?_
              refine run_region rfl ?_
              refine ox rfl rfl rfl rfl (ex_move rfl rfl) ?_
              refine ox rfl rfl rfl rfl (ex_assign rfl rfl) ?_
              refine ops_nil (at_then ?_)
              refine run_ret ?_
              refine at_then_ret ?_
              refine at_block_ret ?_
              refine at_then_ret ?_
              refine at_then_ret ?_
              refine at_block_ret ?_
              refine at_then_ret ?_
              have hR := Option.some.inj ho1442
              subst hR
              have hT := thn_inl H
              have hR := Option.some.inj hT
              subst hR
              exact at_ret1 rfl rfl ⟨_, rfl, rfl, HM⟩
            · replace ho1442 := cond_f hb1596 ho1442
              refine run_skip ?_
              refine at_then ?_
              refine run_seq ?_
              obtain ⟨e1597, ho1442⟩ := chk_some ho1442
              obtain ⟨e1601, ho1442⟩ := chk_some ho1442
              obtain ⟨t1605, h1606, ho1442⟩ := bind_some ho1442
              refine run_meet (fun ρ_ w_ => ρ_ = [(0, p0), (3, .int .i64 a1495), (54, .bool ((decide (0 < a1495)) && (!t1605)))] ∧ Mem w [] w_ []) ?_ ?_
              · skip
                refine run_drawf (fun w_ => Mem w [] w_ []) [(0, true), (1, true), (2, true), (3, true), (4, true), (5, true), (6, true), (7, true), (8, true), (9, true), (10, true), (11, true), (12, true), (13, true), (14, false), (15, true), (16, true)] mixed rfl rfl (by kernel_rfl) ?_
                replace HM := HM.grow (fr_drew _)
                have hS := Mem.suf (M := []) HM
                refine dp rfl rfl rfl rfl (ex_move rfl rfl) hS ?_
                refine dp rfl rfl rfl rfl (ex_gtr rfl rfl rfl) hS ?_
                refine dp rfl rfl rfl rfl (ex_move rfl rfl) hS ?_
                refine bool_cases (decide (0 < a1495)) (fun hg1607 => ?_) (fun hg1607 => ?_)
                · skip
                  refine drwp_take rfl (guard_on rfl rfl rfl hg1607) rfl rfl (fun w_ hS_ => (ex_move rfl rfl)) hS ?_
                  refine drwp_take rfl (guard_on rfl rfl rfl hg1607) rfl rfl (fun w_ hS_ => (ex_move rfl rfl)) hS ?_
                  refine drwp_take rfl (guard_on rfl rfl rfl hg1607) rfl rfl (fun w_ hS_ => (ex_sub rfl rfl rfl)) hS ?_
                  obtain ⟨kv1599, hc1598, hk1600⟩ : ∃ u, CellsAt _ (sb p0) (so p0 + (wrap64 (a1495 - 1)).toNat * 8) [(.int .i64 ((gt x0 (wrap64 (a1495 - 1))).fRef.fTx)), (.int .i64 ((gt x0 (wrap64 (a1495 - 1))).fRef.fAt)), (.int .i64 ((gt x0 (wrap64 (a1495 - 1))).fOut.fValue)), u, (.int .i64 ((gt x0 (wrap64 (a1495 - 1))).fOut.fRule.fNeed)), (.int .i64 ((gt x0 (wrap64 (a1495 - 1))).fOut.fRule.fAfter)), (.int .i64 ((gt x0 (wrap64 (a1495 - 1))).fHeight)), (.bool ((gt x0 (wrap64 (a1495 - 1))).fMined))] ∧ RdS kInt _ u ((gt x0 (wrap64 (a1495 - 1))).fOut.fRule.fKeys) := rd_with1 hp0 (or_t e1597 hg1607)
                  refine drwp_take rfl (guard_on rfl rfl rfl hg1607) rfl rfl (fun w_ hS_ => (ex_indexAddr (d := kCoin) rfl rfl rfl Tryz.underlying29 tsz72 hp0 (idx_lo (or_t e1597 hg1607)) (idx_hi (or_t e1597 hg1607)))) hS ?_
                  refine drwp_take rfl (guard_on rfl rfl rfl hg1607) rfl rfl (fun w_ hS_ => (ex_fieldAddr (off' := so p0 + (wrap64 (a1495 - 1)).toNat * 8) rfl rfl Tryz.underlying72 rfl tsz66 rfl)) hS ?_
                  refine drwp_take rfl (guard_on rfl rfl rfl hg1607) rfl rfl (fun w_ hS_ => (ex_loadN (cs := [(.int .i64 ((gt x0 (wrap64 (a1495 - 1))).fRef.fTx)), (.int .i64 ((gt x0 (wrap64 (a1495 - 1))).fRef.fAt))]) rfl rfl Tryz.underlying66 rfl tsz66 rfl ((hS_.at_ hc1598).sub 0 2 rfl))) hS ?_
                  refine drwp_take rfl (guard_on rfl rfl rfl hg1607) rfl rfl (fun w_ hS_ => (ex_move rfl rfl)) hS ?_
                  refine drwp_take rfl (guard_on rfl rfl rfl hg1607) rfl rfl (fun w_ hS_ => (ex_move rfl rfl)) hS ?_
                  obtain ⟨kv1603, hc1602, hk1604⟩ : ∃ u, CellsAt _ (sb p0) (so p0 + (a1495).toNat * 8) [(.int .i64 ((gt x0 a1495).fRef.fTx)), (.int .i64 ((gt x0 a1495).fRef.fAt)), (.int .i64 ((gt x0 a1495).fOut.fValue)), u, (.int .i64 ((gt x0 a1495).fOut.fRule.fNeed)), (.int .i64 ((gt x0 a1495).fOut.fRule.fAfter)), (.int .i64 ((gt x0 a1495).fHeight)), (.bool ((gt x0 a1495).fMined))] ∧ RdS kInt _ u ((gt x0 a1495).fOut.fRule.fKeys) := rd_with1 hp0 (or_t e1601 hg1607)
                  refine drwp_take rfl (guard_on rfl rfl rfl hg1607) rfl rfl (fun w_ hS_ => (ex_indexAddr (d := kCoin) rfl rfl rfl Tryz.underlying29 tsz72 hp0 (idx_lo (or_t e1601 hg1607)) (idx_hi (or_t e1601 hg1607)))) hS ?_
                  refine drwp_take rfl (guard_on rfl rfl rfl hg1607) rfl rfl (fun w_ hS_ => (ex_fieldAddr (off' := so p0 + (a1495).toNat * 8) rfl rfl Tryz.underlying72 rfl tsz66 rfl)) hS ?_
                  refine drwp_take rfl (guard_on rfl rfl rfl hg1607) rfl rfl (fun w_ hS_ => (ex_loadN (cs := [(.int .i64 ((gt x0 a1495).fRef.fTx)), (.int .i64 ((gt x0 a1495).fRef.fAt))]) rfl rfl Tryz.underlying66 rfl tsz66 rfl ((hS_.at_ hc1602).sub 0 2 rfl))) hS ?_
                  refine drwp_one rfl (guard_on rfl rfl rfl hg1607) rfl rfl (does_callk rfl callok44 rfl (spec_l4Ahead.calls (x0 := (gt x0 (wrap64 (a1495 - 1))).fRef) (x1 := (gt x0 a1495).fRef) (cond_t hg1607 h1606))) ?_
                  rintro _ w1608 ⟨rfl, hn⟩
                  replace HM : Mem w [] w1608 [] := HM.call hn
                  have hS := Mem.suf (M := []) HM
                  refine ⟨hS, ?_⟩
                  refine drwp_take rfl (guard_on rfl rfl rfl hg1607) rfl rfl (fun w_ hS_ => (ex_not rfl rfl)) hS ?_
                  refine drwp_take (v := .bool ((decide (0 < a1495)) && (!t1605))) rfl (guard_none rfl) rfl rfl (fun w_ hS_ => (ex_pand_t rfl rfl hg1607 rfl)) hS ?_
                  refine drwp_done ?_
                  exact at_meet [(0, p0), (3, .int .i64 a1495), (54, .bool ((decide (0 < a1495)) && (!t1605)))] ⟨rfl, HM⟩ (Sub.cons rfl (Sub.cons rfl (Sub.cons rfl Sub.nil)))
                · skip
                  refine drwp_off rfl (guard_off rfl rfl rfl hg1607) rfl rfl hS ?_
                  refine drwp_off rfl (guard_off rfl rfl rfl hg1607) rfl rfl hS ?_
                  refine drwp_off rfl (guard_off rfl rfl rfl hg1607) rfl rfl hS ?_
                  refine drwp_off rfl (guard_off rfl rfl rfl hg1607) rfl rfl hS ?_
                  refine drwp_off rfl (guard_off rfl rfl rfl hg1607) rfl rfl hS ?_
                  refine drwp_off rfl (guard_off rfl rfl rfl hg1607) rfl rfl hS ?_
                  refine drwp_off rfl (guard_off rfl rfl rfl hg1607) rfl rfl hS ?_
                  refine drwp_off rfl (guard_off rfl rfl rfl hg1607) rfl rfl hS ?_
                  refine drwp_off rfl (guard_off rfl rfl rfl hg1607) rfl rfl hS ?_
                  refine drwp_off rfl (guard_off rfl rfl rfl hg1607) rfl rfl hS ?_
                  refine drwp_off rfl (guard_off rfl rfl rfl hg1607) rfl rfl hS ?_
                  refine drwp_off1 rfl (guard_off rfl rfl rfl hg1607) rfl rfl ⟨hS, ?_⟩
                  refine drwp_off rfl (guard_off rfl rfl rfl hg1607) rfl rfl hS ?_
                  have hg1609 : ((decide (0 < a1495)) && (!t1605)) = false := by simp only [hg1607, Bool.and_true, Bool.true_and, Bool.and_false, Bool.false_and, Bool.or_true, Bool.true_or, Bool.or_false, Bool.false_or, Bool.not_true, Bool.not_false, Bool.not_not]
                  refine drwp_take (v := .bool ((decide (0 < a1495)) && (!t1605))) rfl (guard_none rfl) rfl rfl (fun w_ hS_ => (ex_pand_f rfl rfl hg1607)) hS ?_
                  refine drwp_done ?_
                  exact at_meet [(0, p0), (3, .int .i64 a1495), (54, .bool ((decide (0 < a1495)) && (!t1605)))] ⟨rfl, HM⟩ (Sub.cons rfl (Sub.cons rfl (Sub.cons rfl Sub.nil)))
              · rintro _ w1610 ⟨rfl, HM⟩
                refine at_then ?_
                refine run_cond (b := ((decide (0 < a1495)) && (!t1605))) rfl (fun hb1611 => ?_) (fun hb1611 => ?_)
                · replace ho1442 := cond_t hb1611 ho1442
                  refine run_seq ?_
                  refine run_region rfl ?_
                  refine ox rfl rfl rfl rfl (ex_assign rfl rfl) ?_
                  refine ops_nil (at_then ?_)
                  refine run_ret ?_
                  refine at_block_ret ?_
                  refine at_then_ret ?_
                  refine at_then_ret ?_
                  refine at_block_ret ?_
                  refine at_then_ret ?_
                  have hR := Option.some.inj ho1442
                  subst hR
                  have hT := thn_inl H
                  have hR := Option.some.inj hT
                  subst hR
                  exact at_ret1 rfl rfl ⟨_, rfl, rfl, HM⟩
                · replace ho1442 := cond_f hb1611 ho1442
                  refine run_skip ?_
                  refine at_block ?_
                  refine at_then ?_
                  refine run_region rfl ?_
                  refine ox rfl rfl rfl rfl (ex_move rfl rfl) ?_
                  refine ox rfl rfl rfl rfl (ex_add rfl rfl rfl) ?_
                  refine ox rfl rfl rfl rfl (ex_assign rfl rfl) ?_
                  refine ops_nil ?_
                  exact at_again k1548 (ρ1 := [(0, p0), (3, .int .i64 (wrap64 (a1495 + 1)))]) (Nat.lt_succ_self _) ⟨_, ho1442, rfl, HM⟩ (Sub.cons rfl (Sub.cons rfl Sub.nil))
      · replace ho1442 := cond_f hb1550 ho1442
        refine run_exit ?_
        refine at_then_exit ?_
        refine at_then_exit ?_
        refine at_block_exit ?_
        exact at_mid (ρ' := []) ⟨(Option.some.inj ho1442), rfl, HM⟩ Sub.nil
    · rintro _ w1612 ⟨rfl, rfl, HM⟩
      replace H := (thn_inr H)
      refine run_seq ?_
      refine run_region rfl ?_
      refine ox rfl rfl rfl rfl (ex_assign rfl rfl) ?_
      refine ops_nil (at_then ?_)
      refine run_ret ?_
      have hR := Option.some.inj H
      subst hR
      exact at_ret1 rfl rfl ⟨_, rfl, rfl, HM⟩
end Go.Proofs.YtecgbhfgkkpmhabGreat.Zk
