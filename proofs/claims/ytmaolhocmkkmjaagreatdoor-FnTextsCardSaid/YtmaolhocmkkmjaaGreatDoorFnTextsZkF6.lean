/- What functions of the program compute, each as a plain function, and that they do. Conditions: as each theorem states them. -/
import Derived.Test.YtmaolhocmkkmjaaGreatDoorFnTextsZkF5
namespace Go.Proofs.YtmaolhocmkkmjaaGreatDoor.Zk
open Go Go.RowKit Go.IntWalk Go.Proofs
set_option linter.unusedVariables false
set_option linter.unusedSimpArgs false
set_option maxRecDepth 100000
set_option maxHeartbeats 4000000
def impl_ParseTx.f (k : Nat) (x0 : ByteArray) : Option TxResult := ((impl_readTx.f k x0).bind fun t4486 => (bif !t4486.2 then some (⟨5, (⟨0, 0, ([] : List Ref), ([] : List Out)⟩ : Tx)⟩ : TxResult) else some (⟨0, (⟨t4486.1.fKind, t4486.1.fMember, t4486.1.fIns, t4486.1.fOuts⟩ : Tx)⟩ : TxResult)))
theorem impl_ParseTx.calls {k : Nat} {x0 : ByteArray}  {w : World} (htab : TabP w)  {r : TxResult} (H : impl_ParseTx.f k x0 = some r) :
    Calls Tryz.prog 6 ([.string x0] : List Value).toArray w (fun e w_ => ∃ v, e = .returned v ∧ ∃ u0 : Value, ∃ u1 : Value, v = (.agg #[.int .i64 r.fCode, .int .i64 r.fTx.fKind, .int .i64 r.fTx.fMember, u0, u1]) ∧ Mem w [] w_ [own kRef 62 u0 r.fTx.fIns, own kOut 44 u1 r.fTx.fOuts]) := by
  have HM := Mem.start w
  refine calls_run (N := 15) Tryz.func6 rfl rfl rfl rfl ?_
  unfold impl_ParseTx.f at H
  refine run_seq ?_
  refine run_region rfl ?_
  refine od rfl rfl rfl rfl (does_alloc (cs := [.int .i64 0, .int .i64 0, .int .i64 0, .slice none 0 0, .slice none 0 0]) rfl tz30 rfl HM) ?_
  rintro _ w4485 ⟨b4482, rfl, HM⟩
  refine ops_nil (at_then (run_seq ?_))
  obtain ⟨t4486, h4487, H⟩ := bind_some H
  refine run_region rfl ?_
  refine ox rfl rfl rfl rfl (ex_move rfl rfl) ?_
  refine od rfl rfl rfl rfl (does_callk rfl callok21 rfl (impl_readTx.calls (x0 := x0) (HM.tabP htab) h4487)) ?_
  rintro _ w4495 ⟨u4488, u4490, rfl, hn⟩
  replace HM : Mem w [] w4495 [own kRef 62 u4488 t4486.1.fIns, own kOut 44 u4490 t4486.1.fOuts, box b4482 30 [.int .i64 0, .int .i64 0, .int .i64 0, .slice none 0 0, .slice none 0 0]] := HM.call hn
  refine ox rfl rfl rfl rfl (ex_move rfl rfl) ?_
  refine ox rfl rfl rfl rfl (ex_extract rfl rfl rfl) ?_
  refine ox rfl rfl rfl rfl (ex_extract rfl rfl rfl) ?_
  refine od rfl rfl rfl rfl (does_alloc (cs := [.int .i64 0, .int .i64 0, .slice none 0 0, .slice none 0 0]) rfl tz28 rfl HM) ?_
  rintro _ w4496 ⟨b4492, rfl, HM⟩
  refine odS rfl rfl rfl (does_store (vs := [.int .i64 t4486.1.fKind, .int .i64 t4486.1.fMember, u4488, u4490]) (cs' := [.int .i64 t4486.1.fKind, .int .i64 t4486.1.fMember, u4488, u4490]) rfl rfl rfl rfl tsz28 (Ones.int (Ones.int (Ones.rd (HM.own_rd 1 rfl) (Ones.rd (HM.own_rd 2 rfl) Ones.nil)))) rfl rfl HM) ?_
  rintro w4497 HM
  refine ox rfl rfl rfl rfl (ex_assign rfl rfl) ?_
  refine ops_nil (at_then (run_seq ?_))
  refine run_seq ?_
  refine run_region rfl ?_
  refine ox rfl rfl rfl rfl (ex_move rfl rfl) ?_
  refine ox rfl rfl rfl rfl (ex_not rfl rfl) ?_
  refine ops_nil (at_then ?_)
  refine run_cond (b := !t4486.2) rfl (fun hb4498 => ?_) (fun hb4498 => ?_)
  · replace H := cond_t hb4498 H
    refine run_seq ?_
    refine run_region rfl ?_
    refine ox rfl rfl rfl rfl (ex_build (cells := #[(.int .i64 5), (.int .i64 0), (.int .i64 0), (.slice none 0 0), (.slice none 0 0)]) rfl rfl (by kernel_rfl)) ?_
    replace HM := HM.front 3 rfl rfl
    refine odS rfl rfl rfl (does_store (vs := [.int .i64 5, .int .i64 0, .int .i64 0, .slice none 0 0, .slice none 0 0]) (cs' := [.int .i64 5, .int .i64 0, .int .i64 0, .slice none 0 0, .slice none 0 0]) rfl rfl rfl rfl tsz30 (Ones.int (Ones.int (Ones.int (Ones.sl (Ones.sl Ones.nil))))) rfl rfl HM) ?_
    rintro w4499 HM
    refine ops_nil (at_then ?_)
    refine run_ret ?_
    refine at_then_ret ?_
    replace HM := HM.empty kRef 62 none
    replace HM := HM.empty kOut 44 none
    replace HM := (HM.front 3 rfl rfl).drop
    replace HM := (HM.front 3 rfl rfl).drop
    replace HM := (HM.front 3 rfl rfl).drop
    replace HM := HM.front 1 rfl rfl
    replace HM := HM.front 2 rfl rfl
    have hcb0 := HM.box_at 0 rfl
    replace HM := (HM.front 0 rfl rfl).drop
    have hR := Option.some.inj H
    subst hR
    exact at_retN rfl rfl Tryz.underlying30 rfl tsz30 rfl hcb0 ⟨_, rfl, _, _, rfl, HM⟩
  · replace H := cond_f hb4498 H
    refine run_skip ?_
    refine at_then ?_
    refine run_seq ?_
    refine run_region rfl ?_
    refine ox rfl rfl rfl rfl (ex_loadN (cs := [(.int .i64 t4486.1.fKind), (.int .i64 t4486.1.fMember), u4488, u4490]) rfl rfl Tryz.underlying28 rfl tsz28 rfl ((HM.box_at 0 rfl).sub 0 4 rfl)) ?_
    refine ox rfl rfl rfl rfl (ex_build2 (fun u4488 u4490 => [(1, .agg #[(.int .i64 t4486.1.fKind), (.int .i64 t4486.1.fMember), u4488, u4490])]) (fun u4488 u4490 => #[.int .i64 0, .int .i64 t4486.1.fKind, .int .i64 t4486.1.fMember, u4488, u4490]) rfl rfl (fun _ _ _ _ _ _ => by kernel_rfl) (HM.own_rd 1 rfl).isSl (HM.own_rd 2 rfl).isSl) ?_
    replace HM := HM.front 3 rfl rfl
    refine odS rfl rfl rfl (does_store (vs := [.int .i64 0, .int .i64 t4486.1.fKind, .int .i64 t4486.1.fMember, u4488, u4490]) (cs' := [.int .i64 0, .int .i64 t4486.1.fKind, .int .i64 t4486.1.fMember, u4488, u4490]) rfl rfl rfl rfl tsz30 (Ones.int (Ones.int (Ones.int (Ones.rd (HM.own_rd 2 rfl) (Ones.rd (HM.own_rd 3 rfl) Ones.nil))))) rfl rfl HM) ?_
    rintro w4502 HM
    refine ops_nil (at_then ?_)
    refine run_ret ?_
    replace HM := (HM.front 1 rfl rfl).drop
    have hcb0 := HM.box_at 0 rfl
    replace HM := (HM.front 0 rfl rfl).drop
    have hR := Option.some.inj H
    subst hR
    exact at_retN rfl rfl Tryz.underlying30 rfl tsz30 rfl hcb0 ⟨_, rfl, _, _, rfl, HM⟩

def impl_TxText.f (k : Nat) (x0 : Tx) : Option TextResult := ((impl_TxFault.f k x0).bind fun t4537 => (bif (t4537 != 0) then some (⟨t4537, (⟨#[]⟩ : ByteArray)⟩ : TextResult) else ((impl_txText.f k x0).bind fun t4542 => some (⟨t4542.2, t4542.1⟩ : TextResult))))
theorem impl_TxText.calls {k : Nat} {x0 : Tx} {p0_0 : Value} {p0_1 : Value} {w : World} (htab : TabP w) (hp0_0 : RdS kRef w p0_0 x0.fIns) (hp0_1 : RdS kOut w p0_1 x0.fOuts) {r : TextResult} (H : impl_TxText.f k x0 = some r) :
    Calls Tryz.prog 7 ([.agg #[(.int .i64 x0.fKind), (.int .i64 x0.fMember), p0_0, p0_1]] : List Value).toArray w (fun e w_ => ∃ v, e = .returned v ∧ v = (.agg #[.int .i64 r.fCode, .string r.fText]) ∧ Mem w [] w_ []) := by
  have HM := Mem.start w
  refine calls_run (N := 20) Tryz.func7 rfl rfl rfl rfl ?_
  unfold impl_TxText.f at H
  refine run_seq ?_
  refine run_region rfl ?_
  refine od rfl rfl rfl rfl (does_box (cs := [.int .i64 x0.fKind, .int .i64 x0.fMember, p0_0, p0_1]) rfl rfl rfl HM) ?_
  rintro _ w4532 ⟨b4526, rfl, HM⟩
  refine od rfl rfl rfl rfl (does_alloc (cs := [.int .i64 0, .string (⟨#[]⟩ : ByteArray)]) rfl tz33 rfl HM) ?_
  rintro _ w4533 ⟨b4529, rfl, HM⟩
  refine ops_nil (at_then (run_seq ?_))
  refine run_seq ?_
  obtain ⟨t4537, h4538, H⟩ := bind_some H
  refine run_region rfl ?_
  refine ox rfl rfl rfl rfl (ex_loadN (cs := [(.int .i64 x0.fKind), (.int .i64 x0.fMember), p0_0, p0_1]) rfl rfl Tryz.underlying28 rfl tsz28 rfl ((HM.box_at 1 rfl).sub 0 4 rfl)) ?_
  refine od rfl rfl rfl rfl (does_callk rfl callok11 rfl (impl_TxFault.calls (x0 := x0) (HM.rd hp0_0) (HM.rd hp0_1) h4538)) ?_
  rintro _ w4539 ⟨rfl, hn⟩
  replace HM : Mem w [] w4539 [box b4529 33 [.int .i64 0, .string (⟨#[]⟩ : ByteArray)], box b4526 28 [.int .i64 x0.fKind, .int .i64 x0.fMember, p0_0, p0_1]] := HM.call hn
  refine ox rfl rfl rfl rfl (ex_assign rfl rfl) ?_
  refine ops_nil (at_then (run_seq ?_))
  refine run_region rfl ?_
  refine ox rfl rfl rfl rfl (ex_move rfl rfl) ?_
  refine ox rfl rfl rfl rfl (ex_neq rfl rfl rfl) ?_
  refine ops_nil (at_then ?_)
  refine run_cond (b := (t4537 != 0)) rfl (fun hb4540 => ?_) (fun hb4540 => ?_)
  · replace H := cond_t hb4540 H
    refine run_seq ?_
    refine run_region rfl ?_
    refine ox rfl rfl rfl rfl (ex_move rfl rfl) ?_
    refine ox rfl rfl rfl rfl (ex_build (cells := #[(.int .i64 t4537), (.string (⟨#[]⟩ : ByteArray))]) rfl rfl (by kernel_rfl)) ?_
    refine odS rfl rfl rfl (does_store (vs := [.int .i64 t4537, .string (⟨#[]⟩ : ByteArray)]) (cs' := [.int .i64 t4537, .string (⟨#[]⟩ : ByteArray)]) rfl rfl rfl rfl tsz33 (Ones.int (Ones.str Ones.nil)) rfl rfl HM) ?_
    rintro w4541 HM
    refine ops_nil (at_then ?_)
    refine run_ret ?_
    refine at_then_ret ?_
    replace HM := (HM.front 1 rfl rfl).drop
    have hcb0 := HM.box_at 0 rfl
    replace HM := (HM.front 0 rfl rfl).drop
    have hR := Option.some.inj H
    subst hR
    exact at_retN rfl rfl Tryz.underlying33 rfl tsz33 rfl hcb0 ⟨_, rfl, rfl, HM⟩
  · replace H := cond_f hb4540 H
    refine run_skip ?_
    refine at_then ?_
    refine run_seq ?_
    obtain ⟨t4542, h4543, H⟩ := bind_some H
    refine run_region rfl ?_
    refine ox rfl rfl rfl rfl (ex_loadN (cs := [(.int .i64 x0.fKind), (.int .i64 x0.fMember), p0_0, p0_1]) rfl rfl Tryz.underlying28 rfl tsz28 rfl ((HM.box_at 1 rfl).sub 0 4 rfl)) ?_
    refine od rfl rfl rfl rfl (does_callk rfl callok22 rfl (impl_txText.calls (x0 := x0) (HM.tabP htab) (HM.rd hp0_0) (HM.rd hp0_1) h4543)) ?_
    rintro _ w4544 ⟨rfl, hn⟩
    replace HM : Mem w [] w4544 [box b4529 33 [.int .i64 0, .string (⟨#[]⟩ : ByteArray)], box b4526 28 [.int .i64 x0.fKind, .int .i64 x0.fMember, p0_0, p0_1]] := HM.call hn
    refine ox rfl rfl rfl rfl (ex_move rfl rfl) ?_
    refine ox rfl rfl rfl rfl (ex_extract rfl rfl rfl) ?_
    refine ox rfl rfl rfl rfl (ex_extract rfl rfl rfl) ?_
    refine ox rfl rfl rfl rfl (ex_assign rfl rfl) ?_
    refine ox rfl rfl rfl rfl (ex_assign rfl rfl) ?_
    refine ops_nil (at_then (run_seq ?_))
    refine run_region rfl ?_
    refine ox rfl rfl rfl rfl (ex_move rfl rfl) ?_
    refine ox rfl rfl rfl rfl (ex_move rfl rfl) ?_
    refine ox rfl rfl rfl rfl (ex_build (cells := #[(.int .i64 t4542.2), (.string t4542.1)]) rfl rfl (by kernel_rfl)) ?_
    refine odS rfl rfl rfl (does_store (vs := [.int .i64 t4542.2, .string t4542.1]) (cs' := [.int .i64 t4542.2, .string t4542.1]) rfl rfl rfl rfl tsz33 (Ones.int (Ones.str Ones.nil)) rfl rfl HM) ?_
    rintro w4545 HM
    refine ops_nil (at_then ?_)
    refine run_ret ?_
    replace HM := (HM.front 1 rfl rfl).drop
    have hcb0 := HM.box_at 0 rfl
    replace HM := (HM.front 0 rfl rfl).drop
    have hR := Option.some.inj H
    subst hR
    exact at_retN rfl rfl Tryz.underlying33 rfl tsz33 rfl hcb0 ⟨_, rfl, rfl, HM⟩

def spec_l2Cut.l0 (x0 : ByteArray) (x1 : Int) : Nat → (List ByteArray) → Int → Int → Option ((List ByteArray))
  | 0, _, _, _ => none
  | k + 1, a4659, a4661, a4662 => (bif (decide (a4662 ≤ (x0.size : Int))) then (chk (!(!(a4662 == (x0.size : Int))) || (idxOk a4662 x0.size)) (bif ((a4662 == (x0.size : Int)) || ((bt x0 a4662) == x1)) then (chk (cutOk a4662 x0.size) (chk (cutOk a4661 (a4662).toNat) (chk (leB ((a4659.length + ([x0.extract (a4661).toNat (a4662).toNat] : List ByteArray).length) * 16) 140737488355328) (spec_l2Cut.l0 x0 x1 k (a4659 ++ ([x0.extract (a4661).toNat (a4662).toNat] : List ByteArray)) (wrap64 (a4662 + 1)) (wrap64 (a4662 + 1)))))) else spec_l2Cut.l0 x0 x1 k a4659 a4661 (wrap64 (a4662 + 1)))) else some a4659)
theorem spec_l2Cut.l0_z (x0 : ByteArray) (x1 : Int) (a4659 : List ByteArray) (a4661 : Int) (a4662 : Int) : spec_l2Cut.l0 x0 x1 0 a4659 a4661 a4662 = none := rfl
theorem spec_l2Cut.l0_s (x0 : ByteArray) (x1 : Int) (k : Nat) (a4659 : List ByteArray) (a4661 : Int) (a4662 : Int) : spec_l2Cut.l0 x0 x1 (k + 1) a4659 a4661 a4662 = (bif (decide (a4662 ≤ (x0.size : Int))) then (chk (!(!(a4662 == (x0.size : Int))) || (idxOk a4662 x0.size)) (bif ((a4662 == (x0.size : Int)) || ((bt x0 a4662) == x1)) then (chk (cutOk a4662 x0.size) (chk (cutOk a4661 (a4662).toNat) (chk (leB ((a4659.length + ([x0.extract (a4661).toNat (a4662).toNat] : List ByteArray).length) * 16) 140737488355328) (spec_l2Cut.l0 x0 x1 k (a4659 ++ ([x0.extract (a4661).toNat (a4662).toNat] : List ByteArray)) (wrap64 (a4662 + 1)) (wrap64 (a4662 + 1)))))) else spec_l2Cut.l0 x0 x1 k a4659 a4661 (wrap64 (a4662 + 1)))) else some a4659) := rfl
def spec_l2Cut.f (k : Nat) (x0 : ByteArray) (x1 : Int) : Option ((List ByteArray)) := ((spec_l2Cut.l0 x0 x1 k ([] : List ByteArray) 0 0).bind (fun a4643 => some a4643))
theorem spec_l2Cut.calls {k : Nat} {x0 : ByteArray} {x1 : Int}  {w : World}  {r : (List ByteArray)} (H : spec_l2Cut.f k x0 x1 = some r) :
    Calls Tryz.prog 51 ([.string x0, .int .u8 x1] : List Value).toArray w (fun e w_ => ∃ v, e = .returned v ∧ ∃ u0 : Value, v = u0 ∧ Mem w [] w_ [own kStr 9 u0 r]) := by
  have HM := Mem.start w
  refine calls_run (N := 36) Tryz.func51 rfl rfl rfl rfl ?_
  unfold spec_l2Cut.f at H
  refine run_seq ?_
  refine run_region rfl ?_
  refine ox rfl rfl rfl rfl (ex_assign rfl rfl) ?_
  refine ops_nil (at_then (run_seq ?_))
  refine run_region rfl ?_
  refine od rfl rfl rfl rfl (does_lit (e := 9) (cs := []) (xs := ([] : List ByteArray)) kStr rfl rfl (fun _ => by kernel_rfl) rfl rfl (fun _ _ h => by have h' : _ = [] := h; subst h'; exact .nil) HM.emp) ?_
  rintro v4600 w4603 HM
  refine ox rfl rfl rfl rfl (ex_assign rfl rfl) ?_
  refine ops_nil (at_then (run_seq ?_))
  refine run_region rfl ?_
  refine ox rfl rfl rfl rfl (ex_assign rfl rfl) ?_
  refine ops_nil (at_then ?_)
  obtain ⟨o4645, ho4646, H⟩ := bind_some H
  refine run_mid (fun ρ_ w_ => ∃ v4642 : Value, ∃ a4643 : List ByteArray, a4643 = o4645 ∧ ρ_ = [(5, v4642)] ∧ Mem w [] w_ [own kStr 9 v4642 a4643]) ?_ ?_
  · clear H
    refine run_seq ?_
    refine run_region rfl ?_
    refine ox rfl rfl rfl rfl (ex_assign rfl rfl) ?_
    refine ops_nil (at_then ?_)
    refine run_block ?_
    refine run_loop (fun k_ ρ_ w_ => ∃ v4658 : Value, ∃ a4659 : List ByteArray, ∃ a4661 : Int, ∃ a4662 : Int, spec_l2Cut.l0 x0 x1 k_ a4659 a4661 a4662 = some o4645 ∧ ρ_ = [(0, .string x0), (1, .int .u8 x1), (5, v4658), (6, .int .i64 a4661), (7, .int .i64 a4662)] ∧ Mem w [] w_ [own kStr 9 v4658 a4659]) k (ρ1 := [(0, .string x0), (1, .int .u8 x1), (5, v4600), (6, .int .i64 0), (7, .int .i64 0)]) ⟨_, _, _, _, ho4646, rfl, HM⟩ (Sub.cons rfl (Sub.cons rfl (Sub.cons rfl (Sub.cons rfl (Sub.cons rfl Sub.nil))))) ?_
    clear HM ho4646
    rintro k4674 _ w4675 ⟨v4658, a4659, a4661, a4662, ho4646, rfl, HM⟩
    obtain _ | k4674 := k4674
    · exact nomatch ((spec_l2Cut.l0_z x0 x1 a4659 a4661 a4662).symm.trans ho4646)
    replace ho4646 := (spec_l2Cut.l0_s x0 x1 k4674 a4659 a4661 a4662).symm.trans ho4646
    refine run_seq ?_
    refine run_seq ?_
    refine run_region rfl ?_
    refine ox rfl rfl rfl rfl (ex_move rfl rfl) ?_
    refine ox rfl rfl rfl rfl (ex_move rfl rfl) ?_
    refine ox rfl rfl rfl rfl (ex_strlen rfl rfl Tryz.underlying9) ?_
    refine ox rfl rfl rfl rfl (ex_leq rfl rfl rfl) ?_
    refine ops_nil (at_then ?_)
    refine run_cond (b := (decide (a4662 ≤ (x0.size : Int)))) rfl (fun hb4676 => ?_) (fun hb4676 => ?_)
    · replace ho4646 := cond_t hb4676 ho4646
      refine run_skip ?_
      refine at_then ?_
      refine run_seq ?_
      refine run_block ?_
      refine run_seq ?_
      obtain ⟨e4677, ho4646⟩ := chk_some ho4646
      refine run_meet (fun ρ_ w_ => ρ_ = [(0, .string x0), (1, .int .u8 x1), (5, v4658), (6, .int .i64 a4661), (7, .int .i64 a4662), (25, .bool ((a4662 == (x0.size : Int)) || ((bt x0 a4662) == x1)))] ∧ Mem w [] w_ [own kStr 9 v4658 a4659]) ?_ ?_
      · skip
        refine run_region rfl ?_
        refine ox rfl rfl rfl rfl (ex_move rfl rfl) ?_
        refine ox rfl rfl rfl rfl (ex_move rfl rfl) ?_
        refine ox rfl rfl rfl rfl (ex_strlen rfl rfl Tryz.underlying9) ?_
        refine ox rfl rfl rfl rfl (ex_eql rfl rfl rfl) ?_
        refine ox rfl rfl rfl rfl (ex_move rfl rfl) ?_
        refine bool_cases (a4662 == (x0.size : Int)) (fun hg4678 => ?_) (fun hg4678 => ?_)
        · skip
          refine ops_off rfl (guard_off rfl rfl rfl hg4678) rfl rfl ?_
          refine ops_off rfl (guard_off rfl rfl rfl hg4678) rfl rfl ?_
          refine ops_off rfl (guard_off rfl rfl rfl hg4678) rfl rfl ?_
          refine ops_off rfl (guard_off rfl rfl rfl hg4678) rfl rfl ?_
          refine ops_off rfl (guard_off rfl rfl rfl hg4678) rfl rfl ?_
          have hg4679 : ((a4662 == (x0.size : Int)) || ((bt x0 a4662) == x1)) = true := by simp only [hg4678, Bool.and_true, Bool.true_and, Bool.and_false, Bool.false_and, Bool.or_true, Bool.true_or, Bool.or_false, Bool.false_or, Bool.not_true, Bool.not_false, Bool.not_not]
          refine ops_ex (v := .bool ((a4662 == (x0.size : Int)) || ((bt x0 a4662) == x1))) rfl (guard_none rfl) rfl rfl (ex_por_t rfl rfl hg4678) ?_
          refine ops_nil ?_
          exact at_meet [(0, .string x0), (1, .int .u8 x1), (5, v4658), (6, .int .i64 a4661), (7, .int .i64 a4662), (25, .bool ((a4662 == (x0.size : Int)) || ((bt x0 a4662) == x1)))] ⟨rfl, HM⟩ (Sub.cons rfl (Sub.cons rfl (Sub.cons rfl (Sub.cons rfl (Sub.cons rfl (Sub.cons rfl Sub.nil))))))
        · skip
          refine ops_ex rfl (guard_on rfl rfl rfl hg4678) rfl rfl (ex_move rfl rfl) ?_
          refine ops_ex rfl (guard_on rfl rfl rfl hg4678) rfl rfl (ex_move rfl rfl) ?_
          refine ops_ex rfl (guard_on rfl rfl rfl hg4678) rfl rfl (ex_sindex rfl rfl rfl Tryz.underlying9 (idx_lo (or_t e4677 (not_mk hg4678))) (idx_hi (or_t e4677 (not_mk hg4678)))) ?_
          refine ops_ex rfl (guard_on rfl rfl rfl hg4678) rfl rfl (ex_move rfl rfl) ?_
          refine ops_ex rfl (guard_on rfl rfl rfl hg4678) rfl rfl (ex_eql rfl rfl rfl) ?_
          refine ops_ex (v := .bool ((a4662 == (x0.size : Int)) || ((bt x0 a4662) == x1))) rfl (guard_none rfl) rfl rfl (ex_por_f rfl rfl hg4678 rfl) ?_
          refine ops_nil ?_
          exact at_meet [(0, .string x0), (1, .int .u8 x1), (5, v4658), (6, .int .i64 a4661), (7, .int .i64 a4662), (25, .bool ((a4662 == (x0.size : Int)) || ((bt x0 a4662) == x1)))] ⟨rfl, HM⟩ (Sub.cons rfl (Sub.cons rfl (Sub.cons rfl (Sub.cons rfl (Sub.cons rfl (Sub.cons rfl Sub.nil))))))
      · rintro _ w4680 ⟨rfl, HM⟩
        refine at_then ?_
        refine run_cond (b := ((a4662 == (x0.size : Int)) || ((bt x0 a4662) == x1))) rfl (fun hb4681 => ?_) (fun hb4681 => ?_)
        · replace ho4646 := cond_t hb4681 ho4646
          refine run_seq ?_
          obtain ⟨e4682, ho4646⟩ := chk_some ho4646
          obtain ⟨e4683, ho4646⟩ := chk_some ho4646
          obtain ⟨e4687, ho4646⟩ := chk_some ho4646
          refine run_region rfl ?_
          refine ox rfl rfl rfl rfl (ex_move rfl rfl) ?_
          refine ox rfl rfl rfl rfl (ex_move rfl rfl) ?_
          refine ox rfl rfl rfl rfl (ex_move rfl rfl) ?_
          refine ox rfl rfl rfl rfl (ex_move rfl rfl) ?_
          refine ox rfl rfl rfl rfl (ex_scutLH rfl rfl rfl rfl Tryz.underlying9 e4683 e4682) ?_
          refine od rfl rfl rfl rfl (does_lit (e := 9) (cs := [.string (x0.extract (a4661).toNat (a4662).toNat)]) (xs := ([x0.extract (a4661).toNat (a4662).toNat] : List ByteArray)) kStr rfl rfl (fun _ => by kernel_rfl) rfl rfl (fun _ _ h => by have h' : _ = [] := h; subst h'; exact (Elems.cons (d := kStr) (x := x0.extract (a4661).toNat (a4662).toNat) (f := []) ⟨rfl, rfl⟩ .nil)) HM.emp) ?_
          rintro v4684 w4690 HM
          replace HM := HM.front 1 rfl rfl
          refine od rfl rfl rfl rfl (does_appendR kStr flat_plain rfl rfl rfl Tryz.underlying72 tsz9 rfl tby9 tz9 rfl rfl (leB_le e4687) (HM.own_rd 1 rfl) HM) ?_
          rintro v4688 w4691 HM
          refine ox rfl rfl rfl rfl (ex_assign rfl rfl) ?_
          refine ops_nil (at_then ?_)
          refine run_region rfl ?_
          refine ox rfl rfl rfl rfl (ex_move rfl rfl) ?_
          refine ox rfl rfl rfl rfl (ex_add rfl rfl rfl) ?_
          refine ox rfl rfl rfl rfl (ex_assign rfl rfl) ?_
          refine ops_nil ?_
          refine at_block ?_
          refine at_then ?_
          refine run_region rfl ?_
          refine ox rfl rfl rfl rfl (ex_move rfl rfl) ?_
          refine ox rfl rfl rfl rfl (ex_add rfl rfl rfl) ?_
          refine ox rfl rfl rfl rfl (ex_assign rfl rfl) ?_
          refine ops_nil ?_
          replace HM := (HM.front 1 rfl rfl).drop
          exact at_again k4674 (ρ1 := [(0, .string x0), (1, .int .u8 x1), (5, v4688), (6, .int .i64 (wrap64 (a4662 + 1))), (7, .int .i64 (wrap64 (a4662 + 1)))]) (Nat.lt_succ_self _) ⟨_, _, _, _, ho4646, rfl, HM⟩ (Sub.cons rfl (Sub.cons rfl (Sub.cons rfl (Sub.cons rfl (Sub.cons rfl Sub.nil)))))
        · replace ho4646 := cond_f hb4681 ho4646
          refine run_skip ?_
          refine at_block ?_
          refine at_then ?_
          refine run_region rfl ?_
          refine ox rfl rfl rfl rfl (ex_move rfl rfl) ?_
          refine ox rfl rfl rfl rfl (ex_add rfl rfl rfl) ?_
          refine ox rfl rfl rfl rfl (ex_assign rfl rfl) ?_
          refine ops_nil ?_
          exact at_again k4674 (ρ1 := [(0, .string x0), (1, .int .u8 x1), (5, v4658), (6, .int .i64 a4661), (7, .int .i64 (wrap64 (a4662 + 1)))]) (Nat.lt_succ_self _) ⟨_, _, _, _, ho4646, rfl, HM⟩ (Sub.cons rfl (Sub.cons rfl (Sub.cons rfl (Sub.cons rfl (Sub.cons rfl Sub.nil)))))
    · replace ho4646 := cond_f hb4676 ho4646
      refine run_exit ?_
      refine at_then_exit ?_
      refine at_then_exit ?_
      refine at_block_exit ?_
      exact at_mid (ρ' := [(5, v4658)]) ⟨_, _, (Option.some.inj ho4646), rfl, HM⟩ (Sub.cons rfl Sub.nil)
  · rintro _ w4692 ⟨v4642, a4643, rfl, rfl, HM⟩
    refine run_seq ?_
    refine run_region rfl ?_
    refine ox rfl rfl rfl rfl (ex_move rfl rfl) ?_
    refine ox rfl rfl rfl rfl (ex_assign rfl rfl) ?_
    refine ops_nil (at_then ?_)
    refine run_ret ?_
    have hR := Option.some.inj H
    subst hR
    exact at_ret1 rfl rfl ⟨_, rfl, _, rfl, HM⟩

def spec_l2Number.l0 (x0 : ByteArray) : Nat → Int → Int → Option ((Int × Bool) ⊕ Int)
  | 0, _, _ => none
  | k + 1, a4788, a4789 => (bif (decide (a4789 < (x0.size : Int))) then (chk (idxOk a4789 x0.size) (chk (!(!(decide ((bt x0 a4789) < 48))) || (idxOk a4789 x0.size)) (bif ((decide ((bt x0 a4789) < 48)) || (decide (57 < (bt x0 a4789)))) then some (.inl (0, false)) else (chk (idxOk a4789 x0.size) (spec_l2Number.l0 x0 k (wrap64 ((wrap64 (a4788 * 10)) + (wrap64 (IntKind.u8.wrap ((bt x0 a4789) - 48))))) (wrap64 (a4789 + 1))))))) else some (.inr a4788))
theorem spec_l2Number.l0_z (x0 : ByteArray) (a4788 : Int) (a4789 : Int) : spec_l2Number.l0 x0 0 a4788 a4789 = none := rfl
theorem spec_l2Number.l0_s (x0 : ByteArray) (k : Nat) (a4788 : Int) (a4789 : Int) : spec_l2Number.l0 x0 (k + 1) a4788 a4789 = (bif (decide (a4789 < (x0.size : Int))) then (chk (idxOk a4789 x0.size) (chk (!(!(decide ((bt x0 a4789) < 48))) || (idxOk a4789 x0.size)) (bif ((decide ((bt x0 a4789) < 48)) || (decide (57 < (bt x0 a4789)))) then some (.inl (0, false)) else (chk (idxOk a4789 x0.size) (spec_l2Number.l0 x0 k (wrap64 ((wrap64 (a4788 * 10)) + (wrap64 (IntKind.u8.wrap ((bt x0 a4789) - 48))))) (wrap64 (a4789 + 1))))))) else some (.inr a4788)) := rfl
def spec_l2Number.f (k : Nat) (x0 : ByteArray) (x1 : Int) : Option (Int × Bool) := (chk (!((!((decide ((x0.size : Int) < 1)) || (decide (x1 < (x0.size : Int))))) && (decide (1 < (x0.size : Int)))) || (idxOk 0 x0.size)) (bif (((decide ((x0.size : Int) < 1)) || (decide (x1 < (x0.size : Int)))) || ((decide (1 < (x0.size : Int))) && ((bt x0 0) == 48))) then some (0, false) else ((spec_l2Number.l0 x0 k 0 0).bind fun o4778 => thn o4778 (fun r => some r) (fun a4777 => some (a4777, true)))))
theorem spec_l2Number.calls {k : Nat} {x0 : ByteArray} {x1 : Int}  {w : World}  {r : Int × Bool} (H : spec_l2Number.f k x0 x1 = some r) :
    Calls Tryz.prog 52 ([.string x0, .int .i64 x1] : List Value).toArray w (fun e w_ => ∃ v, e = .returned v ∧ v = (.tuple #[.int .i64 r.1, .bool r.2]) ∧ Mem w [] w_ []) := by
  have HM := Mem.start w
  refine calls_run (N := 52) Tryz.func52 rfl rfl rfl rfl ?_
  unfold spec_l2Number.f at H
  refine run_seq ?_
  refine run_region rfl ?_
  refine ox rfl rfl rfl rfl (ex_assign rfl rfl) ?_
  refine ox rfl rfl rfl rfl (ex_assign rfl rfl) ?_
  refine ops_nil (at_then (run_seq ?_))
  refine run_seq ?_
  obtain ⟨e4741, H⟩ := chk_some H
  refine run_meet (fun ρ_ w_ => ρ_ = [(0, .string x0), (26, .bool (((decide ((x0.size : Int) < 1)) || (decide (x1 < (x0.size : Int)))) || ((decide (1 < (x0.size : Int))) && ((bt x0 0) == 48))))] ∧ Mem w [] w_ []) ?_ ?_
  · skip
    refine run_region rfl ?_
    refine ox rfl rfl rfl rfl (ex_move rfl rfl) ?_
    refine ox rfl rfl rfl rfl (ex_strlen rfl rfl Tryz.underlying9) ?_
    refine ox rfl rfl rfl rfl (ex_lss rfl rfl rfl) ?_
    refine ox rfl rfl rfl rfl (ex_move rfl rfl) ?_
    refine bool_cases (decide ((x0.size : Int) < 1)) (fun hg4742 => ?_) (fun hg4742 => ?_)
    · skip
      refine ops_off rfl (guard_off rfl rfl rfl hg4742) rfl rfl ?_
      refine ops_off rfl (guard_off rfl rfl rfl hg4742) rfl rfl ?_
      refine ops_off rfl (guard_off rfl rfl rfl hg4742) rfl rfl ?_
      refine ops_off rfl (guard_off rfl rfl rfl hg4742) rfl rfl ?_
      have hg4743 : ((decide ((x0.size : Int) < 1)) || (decide (x1 < (x0.size : Int)))) = true := by simp only [hg4742, Bool.and_true, Bool.true_and, Bool.and_false, Bool.false_and, Bool.or_true, Bool.true_or, Bool.or_false, Bool.false_or, Bool.not_true, Bool.not_false, Bool.not_not]
      refine ops_ex (v := .bool ((decide ((x0.size : Int) < 1)) || (decide (x1 < (x0.size : Int))))) rfl (guard_none rfl) rfl rfl (ex_por_t rfl rfl hg4742) ?_
      refine ox rfl rfl rfl rfl (ex_move rfl rfl) ?_
      refine ops_off rfl (guard_off rfl rfl rfl hg4743) rfl rfl ?_
      refine ops_off rfl (guard_off rfl rfl rfl hg4743) rfl rfl ?_
      refine ops_off rfl (guard_off rfl rfl rfl hg4743) rfl rfl ?_
      refine ops_off rfl (guard_off rfl rfl rfl hg4743) rfl rfl ?_
      refine ops_off rfl (guard_undef rfl rfl rfl) rfl rfl ?_
      refine ops_off rfl (guard_undef rfl rfl rfl) rfl rfl ?_
      refine ops_off rfl (guard_undef rfl rfl rfl) rfl rfl ?_
      refine ops_off rfl (guard_off rfl rfl rfl hg4743) rfl rfl ?_
      have hg4744 : (((decide ((x0.size : Int) < 1)) || (decide (x1 < (x0.size : Int)))) || ((decide (1 < (x0.size : Int))) && ((bt x0 0) == 48))) = true := by simp only [hg4743, Bool.and_true, Bool.true_and, Bool.and_false, Bool.false_and, Bool.or_true, Bool.true_or, Bool.or_false, Bool.false_or, Bool.not_true, Bool.not_false, Bool.not_not]
      refine ops_ex (v := .bool (((decide ((x0.size : Int) < 1)) || (decide (x1 < (x0.size : Int)))) || ((decide (1 < (x0.size : Int))) && ((bt x0 0) == 48)))) rfl (guard_none rfl) rfl rfl (ex_por_t rfl rfl hg4743) ?_
      refine ops_nil ?_
      exact at_meet [(0, .string x0), (26, .bool (((decide ((x0.size : Int) < 1)) || (decide (x1 < (x0.size : Int)))) || ((decide (1 < (x0.size : Int))) && ((bt x0 0) == 48))))] ⟨rfl, HM⟩ (Sub.cons rfl (Sub.cons rfl Sub.nil))
    · skip
      refine ops_ex rfl (guard_on rfl rfl rfl hg4742) rfl rfl (ex_move rfl rfl) ?_
      refine ops_ex rfl (guard_on rfl rfl rfl hg4742) rfl rfl (ex_strlen rfl rfl Tryz.underlying9) ?_
      refine ops_ex rfl (guard_on rfl rfl rfl hg4742) rfl rfl (ex_move rfl rfl) ?_
      refine ops_ex rfl (guard_on rfl rfl rfl hg4742) rfl rfl (ex_gtr rfl rfl rfl) ?_
      refine ops_ex (v := .bool ((decide ((x0.size : Int) < 1)) || (decide (x1 < (x0.size : Int))))) rfl (guard_none rfl) rfl rfl (ex_por_f rfl rfl hg4742 rfl) ?_
      refine ox rfl rfl rfl rfl (ex_move rfl rfl) ?_
      refine bool_cases ((decide ((x0.size : Int) < 1)) || (decide (x1 < (x0.size : Int)))) (fun hg4745 => ?_) (fun hg4745 => ?_)
      · skip
        refine ops_off rfl (guard_off rfl rfl rfl hg4745) rfl rfl ?_
        refine ops_off rfl (guard_off rfl rfl rfl hg4745) rfl rfl ?_
        refine ops_off rfl (guard_off rfl rfl rfl hg4745) rfl rfl ?_
        refine ops_off rfl (guard_off rfl rfl rfl hg4745) rfl rfl ?_
        refine ops_off rfl (guard_undef rfl rfl rfl) rfl rfl ?_
        refine ops_off rfl (guard_undef rfl rfl rfl) rfl rfl ?_
        refine ops_off rfl (guard_undef rfl rfl rfl) rfl rfl ?_
        refine ops_off rfl (guard_off rfl rfl rfl hg4745) rfl rfl ?_
        have hg4746 : (((decide ((x0.size : Int) < 1)) || (decide (x1 < (x0.size : Int)))) || ((decide (1 < (x0.size : Int))) && ((bt x0 0) == 48))) = true := by simp only [hg4745, Bool.and_true, Bool.true_and, Bool.and_false, Bool.false_and, Bool.or_true, Bool.true_or, Bool.or_false, Bool.false_or, Bool.not_true, Bool.not_false, Bool.not_not]
        refine ops_ex (v := .bool (((decide ((x0.size : Int) < 1)) || (decide (x1 < (x0.size : Int)))) || ((decide (1 < (x0.size : Int))) && ((bt x0 0) == 48)))) rfl (guard_none rfl) rfl rfl (ex_por_t rfl rfl hg4745) ?_
        refine ops_nil ?_
        exact at_meet [(0, .string x0), (26, .bool (((decide ((x0.size : Int) < 1)) || (decide (x1 < (x0.size : Int)))) || ((decide (1 < (x0.size : Int))) && ((bt x0 0) == 48))))] ⟨rfl, HM⟩ (Sub.cons rfl (Sub.cons rfl Sub.nil))
      · skip
        refine ops_ex rfl (guard_on rfl rfl rfl hg4745) rfl rfl (ex_move rfl rfl) ?_
        refine ops_ex rfl (guard_on rfl rfl rfl hg4745) rfl rfl (ex_strlen rfl rfl Tryz.underlying9) ?_
        refine ops_ex rfl (guard_on rfl rfl rfl hg4745) rfl rfl (ex_gtr rfl rfl rfl) ?_
        refine ops_ex rfl (guard_on rfl rfl rfl hg4745) rfl rfl (ex_move rfl rfl) ?_
        refine bool_cases (decide (1 < (x0.size : Int))) (fun hg4747 => ?_) (fun hg4747 => ?_)
        · skip
          refine ops_ex rfl (guard_on rfl rfl rfl hg4747) rfl rfl (ex_move rfl rfl) ?_
          refine ops_ex rfl (guard_on rfl rfl rfl hg4747) rfl rfl (ex_sindex rfl rfl rfl Tryz.underlying9 (idx_lo (or_t e4741 (and_mk (not_mk hg4745) hg4747))) (idx_hi (or_t e4741 (and_mk (not_mk hg4745) hg4747)))) ?_
          refine ops_ex rfl (guard_on rfl rfl rfl hg4747) rfl rfl (ex_eql rfl rfl rfl) ?_
          refine ops_ex (v := .bool ((decide (1 < (x0.size : Int))) && ((bt x0 0) == 48))) rfl (guard_on rfl rfl rfl hg4745) rfl rfl (ex_pand_t rfl rfl hg4747 rfl) ?_
          refine ops_ex (v := .bool (((decide ((x0.size : Int) < 1)) || (decide (x1 < (x0.size : Int)))) || ((decide (1 < (x0.size : Int))) && ((bt x0 0) == 48)))) rfl (guard_none rfl) rfl rfl (ex_por_f rfl rfl hg4745 rfl) ?_
          refine ops_nil ?_
          exact at_meet [(0, .string x0), (26, .bool (((decide ((x0.size : Int) < 1)) || (decide (x1 < (x0.size : Int)))) || ((decide (1 < (x0.size : Int))) && ((bt x0 0) == 48))))] ⟨rfl, HM⟩ (Sub.cons rfl (Sub.cons rfl Sub.nil))
        · skip
          refine ops_off rfl (guard_off rfl rfl rfl hg4747) rfl rfl ?_
          refine ops_off rfl (guard_off rfl rfl rfl hg4747) rfl rfl ?_
          refine ops_off rfl (guard_off rfl rfl rfl hg4747) rfl rfl ?_
          have hg4748 : ((decide (1 < (x0.size : Int))) && ((bt x0 0) == 48)) = false := by simp only [hg4747, Bool.and_true, Bool.true_and, Bool.and_false, Bool.false_and, Bool.or_true, Bool.true_or, Bool.or_false, Bool.false_or, Bool.not_true, Bool.not_false, Bool.not_not]
          refine ops_ex (v := .bool ((decide (1 < (x0.size : Int))) && ((bt x0 0) == 48))) rfl (guard_on rfl rfl rfl hg4745) rfl rfl (ex_pand_f rfl rfl hg4747) ?_
          refine ops_ex (v := .bool (((decide ((x0.size : Int) < 1)) || (decide (x1 < (x0.size : Int)))) || ((decide (1 < (x0.size : Int))) && ((bt x0 0) == 48)))) rfl (guard_none rfl) rfl rfl (ex_por_f rfl rfl hg4745 rfl) ?_
          refine ops_nil ?_
          exact at_meet [(0, .string x0), (26, .bool (((decide ((x0.size : Int) < 1)) || (decide (x1 < (x0.size : Int)))) || ((decide (1 < (x0.size : Int))) && ((bt x0 0) == 48))))] ⟨rfl, HM⟩ (Sub.cons rfl (Sub.cons rfl Sub.nil))
  · rintro _ w4749 ⟨rfl, HM⟩
    refine at_then ?_
    refine run_cond (b := (((decide ((x0.size : Int) < 1)) || (decide (x1 < (x0.size : Int)))) || ((decide (1 < (x0.size : Int))) && ((bt x0 0) == 48)))) rfl (fun hb4750 => ?_) (fun hb4750 => ?_)
    · replace H := cond_t hb4750 H
      refine run_seq ?_
      refine run_region rfl ?_
      refine ox rfl rfl rfl rfl (ex_assign rfl rfl) ?_
      refine ox rfl rfl rfl rfl (ex_assign rfl rfl) ?_
      refine ops_nil (at_then ?_)
      refine run_ret ?_
      refine at_then_ret ?_
      have hR := Option.some.inj H
      subst hR
      exact at_ret2 rfl rfl rfl ⟨_, rfl, rfl, HM⟩
    · replace H := cond_f hb4750 H
      refine run_skip ?_
      refine at_then ?_
      refine run_seq ?_
      refine run_region rfl ?_
      refine ox rfl rfl rfl rfl (ex_assign rfl rfl) ?_
      refine ops_nil (at_then ?_)
      obtain ⟨o4778, ho4779, H⟩ := bind_some H
      refine run_mid (fun ρ_ w_ => ∃ a4777 : Int, Sum.inr a4777 = o4778 ∧ ρ_ = [(6, .int .i64 a4777)] ∧ Mem w [] w_ []) ?_ ?_
      · skip
        refine run_seq ?_
        refine run_region rfl ?_
        refine ox rfl rfl rfl rfl (ex_assign rfl rfl) ?_
        refine ops_nil (at_then ?_)
        refine run_block ?_
        refine run_loop (fun k_ ρ_ w_ => ∃ a4788 : Int, ∃ a4789 : Int, spec_l2Number.l0 x0 k_ a4788 a4789 = some o4778 ∧ ρ_ = [(0, .string x0), (6, .int .i64 a4788), (7, .int .i64 a4789)] ∧ Mem w [] w_ []) k (ρ1 := [(0, .string x0), (6, .int .i64 0), (7, .int .i64 0)]) ⟨_, _, ho4779, rfl, HM⟩ (Sub.cons rfl (Sub.cons rfl (Sub.cons rfl Sub.nil))) ?_
        clear HM ho4779
        rintro k4798 _ w4799 ⟨a4788, a4789, ho4779, rfl, HM⟩
        obtain _ | k4798 := k4798
        · exact nomatch ((spec_l2Number.l0_z x0 a4788 a4789).symm.trans ho4779)
        replace ho4779 := (spec_l2Number.l0_s x0 k4798 a4788 a4789).symm.trans ho4779
        refine run_seq ?_
        refine run_seq ?_
        refine run_region rfl ?_
        refine ox rfl rfl rfl rfl (ex_move rfl rfl) ?_
        refine ox rfl rfl rfl rfl (ex_move rfl rfl) ?_
        refine ox rfl rfl rfl rfl (ex_strlen rfl rfl Tryz.underlying9) ?_
        refine ox rfl rfl rfl rfl (ex_lss rfl rfl rfl) ?_
        refine ops_nil (at_then ?_)
        refine run_cond (b := (decide (a4789 < (x0.size : Int)))) rfl (fun hb4800 => ?_) (fun hb4800 => ?_)
        · replace ho4779 := cond_t hb4800 ho4779
          refine run_skip ?_
          refine at_then ?_
          refine run_seq ?_
          refine run_block ?_
          refine run_seq ?_
          refine run_seq ?_
          obtain ⟨e4804, ho4779⟩ := chk_some ho4779
          obtain ⟨e4805, ho4779⟩ := chk_some ho4779
          refine run_meet (fun ρ_ w_ => ρ_ = [(0, .string x0), (6, .int .i64 a4788), (7, .int .i64 a4789), (42, .bool ((decide ((bt x0 a4789) < 48)) || (decide (57 < (bt x0 a4789)))))] ∧ Mem w [] w_ []) ?_ ?_
          · skip
            refine run_region rfl ?_
            refine ox rfl rfl rfl rfl (ex_move rfl rfl) ?_
            refine ox rfl rfl rfl rfl (ex_move rfl rfl) ?_
            refine ox rfl rfl rfl rfl (ex_sindex rfl rfl rfl Tryz.underlying9 (idx_lo e4804) (idx_hi e4804)) ?_
            refine ox rfl rfl rfl rfl (ex_lss rfl rfl rfl) ?_
            refine ox rfl rfl rfl rfl (ex_move rfl rfl) ?_
            refine bool_cases (decide ((bt x0 a4789) < 48)) (fun hg4806 => ?_) (fun hg4806 => ?_)
            · skip
              refine ops_off rfl (guard_off rfl rfl rfl hg4806) rfl rfl ?_
              refine ops_off rfl (guard_off rfl rfl rfl hg4806) rfl rfl ?_
              refine ops_off rfl (guard_off rfl rfl rfl hg4806) rfl rfl ?_
              refine ops_off rfl (guard_off rfl rfl rfl hg4806) rfl rfl ?_
              have hg4807 : ((decide ((bt x0 a4789) < 48)) || (decide (57 < (bt x0 a4789)))) = true := by simp only [hg4806, Bool.and_true, Bool.true_and, Bool.and_false, Bool.false_and, Bool.or_true, Bool.true_or, Bool.or_false, Bool.false_or, Bool.not_true, Bool.not_false, Bool.not_not]
              refine ops_ex (v := .bool ((decide ((bt x0 a4789) < 48)) || (decide (57 < (bt x0 a4789))))) rfl (guard_none rfl) rfl rfl (ex_por_t rfl rfl hg4806) ?_
              refine ops_nil ?_
              exact at_meet [(0, .string x0), (6, .int .i64 a4788), (7, .int .i64 a4789), (42, .bool ((decide ((bt x0 a4789) < 48)) || (decide (57 < (bt x0 a4789)))))] ⟨rfl, HM⟩ (Sub.cons rfl (Sub.cons rfl (Sub.cons rfl (Sub.cons rfl Sub.nil))))
            · skip
              refine ops_ex rfl (guard_on rfl rfl rfl hg4806) rfl rfl (ex_move rfl rfl) ?_
              refine ops_ex rfl (guard_on rfl rfl rfl hg4806) rfl rfl (ex_move rfl rfl) ?_
              refine ops_ex rfl (guard_on rfl rfl rfl hg4806) rfl rfl (ex_sindex rfl rfl rfl Tryz.underlying9 (idx_lo (or_t e4805 (not_mk hg4806))) (idx_hi (or_t e4805 (not_mk hg4806)))) ?_
              refine ops_ex rfl (guard_on rfl rfl rfl hg4806) rfl rfl (ex_gtr rfl rfl rfl) ?_
              refine ops_ex (v := .bool ((decide ((bt x0 a4789) < 48)) || (decide (57 < (bt x0 a4789))))) rfl (guard_none rfl) rfl rfl (ex_por_f rfl rfl hg4806 rfl) ?_
              refine ops_nil ?_
              exact at_meet [(0, .string x0), (6, .int .i64 a4788), (7, .int .i64 a4789), (42, .bool ((decide ((bt x0 a4789) < 48)) || (decide (57 < (bt x0 a4789)))))] ⟨rfl, HM⟩ (Sub.cons rfl (Sub.cons rfl (Sub.cons rfl (Sub.cons rfl Sub.nil))))
          · rintro _ w4808 ⟨rfl, HM⟩
            refine at_then ?_
            refine run_cond (b := ((decide ((bt x0 a4789) < 48)) || (decide (57 < (bt x0 a4789))))) rfl (fun hb4809 => ?_) (fun hb4809 => ?_)
            · replace ho4779 := cond_t hb4809 ho4779
              refine run_seq ?_
              refine run_region rfl ?_
              refine ox rfl rfl rfl rfl (ex_assign rfl rfl) ?_
              refine ox rfl rfl rfl rfl (ex_assign rfl rfl) ?_
              refine ops_nil (at_then ?_)
              refine run_ret ?_
              refine at_then_ret ?_
              refine at_block_ret ?_
              refine at_then_ret ?_
              refine at_then_ret ?_
              refine at_block_ret ?_
              refine at_then_ret ?_
              have hR := Option.some.inj ho4779
              subst hR
              have hT := thn_inl H
              have hR := Option.some.inj hT
              subst hR
              exact at_ret2 rfl rfl rfl ⟨_, rfl, rfl, HM⟩
            · replace ho4779 := cond_f hb4809 ho4779
              refine run_skip ?_
              refine at_then ?_
              obtain ⟨e4810, ho4779⟩ := chk_some ho4779
              refine run_region rfl ?_
              refine ox rfl rfl rfl rfl (ex_move rfl rfl) ?_
              refine ox rfl rfl rfl rfl (ex_mul rfl rfl rfl) ?_
              refine ox rfl rfl rfl rfl (ex_move rfl rfl) ?_
              refine ox rfl rfl rfl rfl (ex_move rfl rfl) ?_
              refine ox rfl rfl rfl rfl (ex_sindex rfl rfl rfl Tryz.underlying9 (idx_lo e4810) (idx_hi e4810)) ?_
              refine ox rfl rfl rfl rfl (ex_subk rfl rfl rfl) ?_
              refine ox rfl rfl rfl rfl (ex_conv64 rfl rfl (by rw [Tryz.underlying5]; rfl) Tryz.underlying2) ?_
              refine ox rfl rfl rfl rfl (ex_add rfl rfl rfl) ?_
              refine ox rfl rfl rfl rfl (ex_assign rfl rfl) ?_
              refine ops_nil ?_
              refine at_block ?_
              refine at_then ?_
              refine run_region rfl ?_
              refine ox rfl rfl rfl rfl (ex_move rfl rfl) ?_
              refine ox rfl rfl rfl rfl (ex_add rfl rfl rfl) ?_
              refine ox rfl rfl rfl rfl (ex_assign rfl rfl) ?_
              refine ops_nil ?_
              exact at_again k4798 (ρ1 := [(0, .string x0), (6, .int .i64 (wrap64 ((wrap64 (a4788 * 10)) + (wrap64 (IntKind.u8.wrap ((bt x0 a4789) - 48)))))), (7, .int .i64 (wrap64 (a4789 + 1)))]) (Nat.lt_succ_self _) ⟨_, _, ho4779, rfl, HM⟩ (Sub.cons rfl (Sub.cons rfl (Sub.cons rfl Sub.nil)))
        · replace ho4779 := cond_f hb4800 ho4779
          refine run_exit ?_
          refine at_then_exit ?_
          refine at_then_exit ?_
          refine at_block_exit ?_
          exact at_mid (ρ' := [(6, .int .i64 a4788)]) ⟨_, (Option.some.inj ho4779), rfl, HM⟩ (Sub.cons rfl Sub.nil)
      · rintro _ w4811 ⟨a4777, rfl, rfl, HM⟩
        replace H := (thn_inr H)
        refine run_seq ?_
        refine run_region rfl ?_
        refine ox rfl rfl rfl rfl (ex_move rfl rfl) ?_
        refine ox rfl rfl rfl rfl (ex_assign rfl rfl) ?_
        refine ox rfl rfl rfl rfl (ex_assign rfl rfl) ?_
        refine ops_nil (at_then ?_)
        refine run_ret ?_
        have hR := Option.some.inj H
        subst hR
        exact at_ret2 rfl rfl rfl ⟨_, rfl, rfl, HM⟩

def spec_l3Ins.l0 (t4928 : (List ByteArray)) : Nat → (List Ref) → Int → Option (((List Ref) × Bool) ⊕ ((List Ref)))
  | 0, _, _ => none
  | k + 1, a5031, a5033 => (bif (decide (a5033 < (t4928.length : Int))) then (chk (idxOk a5033 t4928.length) ((spec_l2Cut.f k (gt t4928 a5033) 58).bind fun t5060 => (bif ((t5060.length : Int) != 2) then some (.inl (([] : List Ref), false)) else (chk (idxOk (0 : Int) t5060.length) ((spec_l2Number.f k (gt t5060 (0 : Int)) 2).bind fun t5069 => (chk (idxOk (1 : Int) t5060.length) ((spec_l2Number.f k (gt t5060 (1 : Int)) 1).bind fun t5073 => (bif ((!t5069.2) || (!t5073.2)) then some (.inl (([] : List Ref), false)) else (chk (leB ((a5031.length + ([(⟨t5069.1, t5073.1⟩ : Ref)] : List Ref).length) * 16) 140737488355328) (spec_l3Ins.l0 t4928 k (a5031 ++ ([(⟨t5069.1, t5073.1⟩ : Ref)] : List Ref)) (wrap64 (a5033 + 1)))))))))))) else some (.inr a5031))
theorem spec_l3Ins.l0_z (t4928 : (List ByteArray)) (a5031 : List Ref) (a5033 : Int) : spec_l3Ins.l0 t4928 0 a5031 a5033 = none := rfl
theorem spec_l3Ins.l0_s (t4928 : (List ByteArray)) (k : Nat) (a5031 : List Ref) (a5033 : Int) : spec_l3Ins.l0 t4928 (k + 1) a5031 a5033 = (bif (decide (a5033 < (t4928.length : Int))) then (chk (idxOk a5033 t4928.length) ((spec_l2Cut.f k (gt t4928 a5033) 58).bind fun t5060 => (bif ((t5060.length : Int) != 2) then some (.inl (([] : List Ref), false)) else (chk (idxOk (0 : Int) t5060.length) ((spec_l2Number.f k (gt t5060 (0 : Int)) 2).bind fun t5069 => (chk (idxOk (1 : Int) t5060.length) ((spec_l2Number.f k (gt t5060 (1 : Int)) 1).bind fun t5073 => (bif ((!t5069.2) || (!t5073.2)) then some (.inl (([] : List Ref), false)) else (chk (leB ((a5031.length + ([(⟨t5069.1, t5073.1⟩ : Ref)] : List Ref).length) * 16) 140737488355328) (spec_l3Ins.l0 t4928 k (a5031 ++ ([(⟨t5069.1, t5073.1⟩ : Ref)] : List Ref)) (wrap64 (a5033 + 1)))))))))))) else some (.inr a5031)) := rfl
def spec_l3Ins.f (k : Nat) (x0 : ByteArray) : Option ((List Ref) × Bool) := ((spec_l2Cut.f k x0 43).bind fun t4928 => ((spec_l3Ins.l0 t4928 k ([] : List Ref) 0).bind fun o5006 => thn o5006 (fun r => some r) (fun a5004 => some (a5004, true))))
theorem spec_l3Ins.calls {k : Nat} {x0 : ByteArray}  {w : World}  {r : (List Ref) × Bool} (H : spec_l3Ins.f k x0 = some r) :
    Calls Tryz.prog 53 ([.string x0] : List Value).toArray w (fun e w_ => ∃ v, e = .returned v ∧ ∃ u0 : Value, v = (.tuple #[u0, .bool r.2]) ∧ Mem w [] w_ [own kRef 62 u0 r.1]) := by
  have HM := Mem.start w
  refine calls_run (N := 56) Tryz.func53 rfl rfl rfl rfl ?_
  unfold spec_l3Ins.f at H
  refine run_seq ?_
  refine run_region rfl ?_
  refine ox rfl rfl rfl rfl (ex_assign rfl rfl) ?_
  refine ox rfl rfl rfl rfl (ex_assign rfl rfl) ?_
  refine ops_nil (at_then (run_seq ?_))
  refine run_region rfl ?_
  refine od rfl rfl rfl rfl (does_lit (e := 62) (cs := []) (xs := ([] : List Ref)) kRef rfl rfl (fun _ => by kernel_rfl) rfl rfl (fun _ _ h => by have h' : _ = [] := h; subst h'; exact .nil) HM.emp) ?_
  rintro v4924 w4927 HM
  refine ox rfl rfl rfl rfl (ex_assign rfl rfl) ?_
  refine ops_nil (at_then (run_seq ?_))
  obtain ⟨t4928, h4929, H⟩ := bind_some H
  refine run_region rfl ?_
  refine ox rfl rfl rfl rfl (ex_move rfl rfl) ?_
  refine od rfl rfl rfl rfl (does_callk rfl callok51 rfl (spec_l2Cut.calls (x0 := x0) (x1 := 43) h4929)) ?_
  rintro u4930 w4932 ⟨_, rfl, hn⟩
  replace HM : Mem w [] w4932 [own kStr 9 u4930 t4928, own kRef 62 v4924 ([] : List Ref)] := HM.call hn
  refine ox rfl rfl rfl rfl (ex_assign rfl rfl) ?_
  refine ops_nil (at_then ?_)
  obtain ⟨o5006, ho5007, H⟩ := bind_some H
  refine run_mid (fun ρ_ w_ => ∃ v5003 : Value, ∃ a5004 : List Ref, Sum.inr a5004 = o5006 ∧ ρ_ = [(4, v5003)] ∧ Mem w [] w_ [own kRef 62 v5003 a5004]) ?_ ?_
  · skip
    refine run_seq ?_
    refine run_region rfl ?_
    refine ox rfl rfl rfl rfl (ex_assign rfl rfl) ?_
    refine ops_nil (at_then ?_)
    refine run_block ?_
    replace HM := HM.front 1 rfl rfl
    refine run_loop (fun k_ ρ_ w_ => ∃ v5030 : Value, ∃ a5031 : List Ref, ∃ a5033 : Int, spec_l3Ins.l0 t4928 k_ a5031 a5033 = some o5006 ∧ ρ_ = [(4, v5030), (5, u4930), (6, .int .i64 a5033)] ∧ Mem w [] w_ [own kRef 62 v5030 a5031, own kStr 9 u4930 t4928]) k (ρ1 := [(4, v4924), (5, u4930), (6, .int .i64 0)]) ⟨_, _, _, ho5007, rfl, HM⟩ (Sub.cons rfl (Sub.cons rfl (Sub.cons rfl Sub.nil))) ?_
    clear HM ho5007
    rintro k5056 _ w5057 ⟨v5030, a5031, a5033, ho5007, rfl, HM⟩
    obtain _ | k5056 := k5056
    · exact nomatch ((spec_l3Ins.l0_z t4928 a5031 a5033).symm.trans ho5007)
    replace ho5007 := (spec_l3Ins.l0_s t4928 k5056 a5031 a5033).symm.trans ho5007
    refine run_seq ?_
    refine run_seq ?_
    refine run_region rfl ?_
    refine ox rfl rfl rfl rfl (ex_move rfl rfl) ?_
    refine ox rfl rfl rfl rfl (ex_move rfl rfl) ?_
    refine ox rfl rfl rfl rfl (ex_len (d := kStr) (xs := t4928) rfl rfl Tryz.underlying72 (HM.own_rd 1 rfl)) ?_
    refine ox rfl rfl rfl rfl (ex_lss rfl rfl rfl) ?_
    refine ops_nil (at_then ?_)
    refine run_cond (b := (decide (a5033 < (t4928.length : Int)))) rfl (fun hb5058 => ?_) (fun hb5058 => ?_)
    · replace ho5007 := cond_t hb5058 ho5007
      refine run_skip ?_
      refine at_then ?_
      refine run_seq ?_
      refine run_block ?_
      refine run_seq ?_
      obtain ⟨e5059, ho5007⟩ := chk_some ho5007
      obtain ⟨t5060, h5061, ho5007⟩ := bind_some ho5007
      refine run_region rfl ?_
      refine ox rfl rfl rfl rfl (ex_move rfl rfl) ?_
      refine ox rfl rfl rfl rfl (ex_move rfl rfl) ?_
      refine ox rfl rfl rfl rfl (ex_indexAddr (d := kStr) rfl rfl rfl Tryz.underlying72 tsz9 (HM.own_rd 1 rfl) (idx_lo e5059) (idx_hi e5059)) ?_
      refine ox rfl rfl rfl rfl (ex_load1 rfl rfl Tryz.underlying9 rfl ((rd_plain (HM.own_rd 1 rfl) e5059) 0 _ rfl)) ?_
      refine od rfl rfl rfl rfl (does_callk rfl callok51 rfl (spec_l2Cut.calls (x0 := (gt t4928 a5033)) (x1 := 58) h5061)) ?_
      rintro u5062 w5064 ⟨_, rfl, hn⟩
      replace HM : Mem w [] w5064 [own kStr 9 u5062 t5060, own kRef 62 v5030 a5031, own kStr 9 u4930 t4928] := HM.call hn
      refine ox rfl rfl rfl rfl (ex_assign rfl rfl) ?_
      refine ops_nil (at_then (run_seq ?_))
      refine run_seq ?_
      refine run_region rfl ?_
      refine ox rfl rfl rfl rfl (ex_move rfl rfl) ?_
      refine ox rfl rfl rfl rfl (ex_len (d := kStr) (xs := t5060) rfl rfl Tryz.underlying72 (HM.own_rd 0 rfl)) ?_
      refine ox rfl rfl rfl rfl (ex_neq rfl rfl rfl) ?_
      refine ops_nil (at_then ?_)
      refine run_cond (b := ((t5060.length : Int) != 2)) rfl (fun hb5066 => ?_) (fun hb5066 => ?_)
      · replace ho5007 := cond_t hb5066 ho5007
        refine run_seq ?_
        refine run_region rfl ?_
        refine ox rfl rfl rfl rfl (ex_assign rfl rfl) ?_
        refine ox rfl rfl rfl rfl (ex_assign rfl rfl) ?_
        refine ops_nil (at_then ?_)
        refine run_ret ?_
        refine at_then_ret ?_
        refine at_block_ret ?_
        refine at_then_ret ?_
        refine at_then_ret ?_
        refine at_block_ret ?_
        refine at_then_ret ?_
        replace HM := HM.empty kRef 62 none
        replace HM := (HM.front 1 rfl rfl).drop
        replace HM := (HM.front 1 rfl rfl).drop
        replace HM := (HM.front 1 rfl rfl).drop
        have hR := Option.some.inj ho5007
        subst hR
        have hT := thn_inl H
        have hR := Option.some.inj hT
        subst hR
        exact at_ret2 rfl rfl rfl ⟨_, rfl, _, rfl, HM⟩
      · replace ho5007 := cond_f hb5066 ho5007
        refine run_skip ?_
        refine at_then ?_
        refine run_seq ?_
        obtain ⟨e5068, ho5007⟩ := chk_some ho5007
        obtain ⟨t5069, h5070, ho5007⟩ := bind_some ho5007
        refine run_region rfl ?_
        refine ox rfl rfl rfl rfl (ex_move rfl rfl) ?_
        refine ox rfl rfl rfl rfl (ex_indexAddr (d := kStr) rfl rfl rfl Tryz.underlying72 tsz9 (HM.own_rd 0 rfl) (idx_lo e5068) (idx_hi e5068)) ?_
        refine ox rfl rfl rfl rfl (ex_load1 rfl rfl Tryz.underlying9 rfl ((rd_plain (HM.own_rd 0 rfl) e5068) 0 _ rfl)) ?_
        refine od rfl rfl rfl rfl (does_callk rfl callok52 rfl (spec_l2Number.calls (x0 := (gt t5060 (0 : Int))) (x1 := 2) h5070)) ?_
        rintro _ w5071 ⟨rfl, hn⟩
        replace HM : Mem w [] w5071 [own kStr 9 u5062 t5060, own kRef 62 v5030 a5031, own kStr 9 u4930 t4928] := HM.call hn
        refine ox rfl rfl rfl rfl (ex_move rfl rfl) ?_
        refine ox rfl rfl rfl rfl (ex_extract rfl rfl rfl) ?_
        refine ox rfl rfl rfl rfl (ex_extract rfl rfl rfl) ?_
        refine ox rfl rfl rfl rfl (ex_assign rfl rfl) ?_
        refine ox rfl rfl rfl rfl (ex_assign rfl rfl) ?_
        refine ops_nil (at_then (run_seq ?_))
        obtain ⟨e5072, ho5007⟩ := chk_some ho5007
        obtain ⟨t5073, h5074, ho5007⟩ := bind_some ho5007
        refine run_region rfl ?_
        refine ox rfl rfl rfl rfl (ex_move rfl rfl) ?_
        refine ox rfl rfl rfl rfl (ex_indexAddr (d := kStr) rfl rfl rfl Tryz.underlying72 tsz9 (HM.own_rd 0 rfl) (idx_lo e5072) (idx_hi e5072)) ?_
        refine ox rfl rfl rfl rfl (ex_load1 rfl rfl Tryz.underlying9 rfl ((rd_plain (HM.own_rd 0 rfl) e5072) 0 _ rfl)) ?_
        refine od rfl rfl rfl rfl (does_callk rfl callok52 rfl (spec_l2Number.calls (x0 := (gt t5060 (1 : Int))) (x1 := 1) h5074)) ?_
        rintro _ w5075 ⟨rfl, hn⟩
        replace HM : Mem w [] w5075 [own kStr 9 u5062 t5060, own kRef 62 v5030 a5031, own kStr 9 u4930 t4928] := HM.call hn
        refine ox rfl rfl rfl rfl (ex_move rfl rfl) ?_
        refine ox rfl rfl rfl rfl (ex_extract rfl rfl rfl) ?_
        refine ox rfl rfl rfl rfl (ex_extract rfl rfl rfl) ?_
        refine ox rfl rfl rfl rfl (ex_assign rfl rfl) ?_
        refine ox rfl rfl rfl rfl (ex_assign rfl rfl) ?_
        refine ops_nil (at_then (run_seq ?_))
        refine run_seq ?_
        refine run_meet (fun ρ_ w_ => ρ_ = [(4, v5030), (5, u4930), (6, .int .i64 a5033), (8, .int .i64 t5069.1), (10, .int .i64 t5073.1), (48, .bool ((!t5069.2) || (!t5073.2)))] ∧ Mem w [] w_ [own kRef 62 v5030 a5031, own kStr 9 u4930 t4928]) ?_ ?_
        · skip
          refine run_region rfl ?_
          refine ox rfl rfl rfl rfl (ex_move rfl rfl) ?_
          refine ox rfl rfl rfl rfl (ex_not rfl rfl) ?_
          refine ox rfl rfl rfl rfl (ex_move rfl rfl) ?_
          refine bool_cases (!t5069.2) (fun hg5077 => ?_) (fun hg5077 => ?_)
          · skip
            refine ops_off rfl (guard_off rfl rfl rfl hg5077) rfl rfl ?_
            refine ops_off rfl (guard_off rfl rfl rfl hg5077) rfl rfl ?_
            have hg5078 : ((!t5069.2) || (!t5073.2)) = true := by simp only [hg5077, Bool.and_true, Bool.true_and, Bool.and_false, Bool.false_and, Bool.or_true, Bool.true_or, Bool.or_false, Bool.false_or, Bool.not_true, Bool.not_false, Bool.not_not]
            refine ops_ex (v := .bool ((!t5069.2) || (!t5073.2))) rfl (guard_none rfl) rfl rfl (ex_por_t rfl rfl hg5077) ?_
            refine ops_nil ?_
            replace HM := (HM.front 0 rfl rfl).drop
            exact at_meet [(4, v5030), (5, u4930), (6, .int .i64 a5033), (8, .int .i64 t5069.1), (10, .int .i64 t5073.1), (48, .bool ((!t5069.2) || (!t5073.2)))] ⟨rfl, HM⟩ (Sub.cons rfl (Sub.cons rfl (Sub.cons rfl (Sub.cons rfl (Sub.cons rfl (Sub.cons rfl Sub.nil))))))
          · skip
            refine ops_ex rfl (guard_on rfl rfl rfl hg5077) rfl rfl (ex_move rfl rfl) ?_
            refine ops_ex rfl (guard_on rfl rfl rfl hg5077) rfl rfl (ex_not rfl rfl) ?_
            refine ops_ex (v := .bool ((!t5069.2) || (!t5073.2))) rfl (guard_none rfl) rfl rfl (ex_por_f rfl rfl hg5077 rfl) ?_
            refine ops_nil ?_
            replace HM := (HM.front 0 rfl rfl).drop
            exact at_meet [(4, v5030), (5, u4930), (6, .int .i64 a5033), (8, .int .i64 t5069.1), (10, .int .i64 t5073.1), (48, .bool ((!t5069.2) || (!t5073.2)))] ⟨rfl, HM⟩ (Sub.cons rfl (Sub.cons rfl (Sub.cons rfl (Sub.cons rfl (Sub.cons rfl (Sub.cons rfl Sub.nil))))))
        · rintro _ w5079 ⟨rfl, HM⟩
          refine at_then ?_
          refine run_cond (b := ((!t5069.2) || (!t5073.2))) rfl (fun hb5080 => ?_) (fun hb5080 => ?_)
          · replace ho5007 := cond_t hb5080 ho5007
            refine run_seq ?_
            refine run_region rfl ?_
            refine ox rfl rfl rfl rfl (ex_assign rfl rfl) ?_
            refine ox rfl rfl rfl rfl (ex_assign rfl rfl) ?_
            refine ops_nil (at_then ?_)
            refine run_ret ?_
            refine at_then_ret ?_
            refine at_block_ret ?_
            refine at_then_ret ?_
            refine at_then_ret ?_
            refine at_block_ret ?_
            refine at_then_ret ?_
            replace HM := HM.empty kRef 62 none
            replace HM := (HM.front 1 rfl rfl).drop
            replace HM := (HM.front 1 rfl rfl).drop
            have hR := Option.some.inj ho5007
            subst hR
            have hT := thn_inl H
            have hR := Option.some.inj hT
            subst hR
            exact at_ret2 rfl rfl rfl ⟨_, rfl, _, rfl, HM⟩
          · replace ho5007 := cond_f hb5080 ho5007
            refine run_skip ?_
            refine at_then ?_
            obtain ⟨e5085, ho5007⟩ := chk_some ho5007
            refine run_region rfl ?_
            refine ox rfl rfl rfl rfl (ex_move rfl rfl) ?_
            refine ox rfl rfl rfl rfl (ex_move rfl rfl) ?_
            refine ox rfl rfl rfl rfl (ex_move rfl rfl) ?_
            refine ox rfl rfl rfl rfl (ex_build (cells := #[(.int .i64 t5069.1), (.int .i64 t5073.1)]) rfl rfl (by kernel_rfl)) ?_
            refine od rfl rfl rfl rfl (does_lit (e := 62) (cs := [.int .i64 t5069.1, .int .i64 t5073.1]) (xs := ([(⟨t5069.1, t5073.1⟩ : Ref)] : List Ref)) kRef rfl rfl (fun _ => by kernel_rfl) rfl rfl (fun _ _ h => by have h' : _ = [] := h; subst h'; exact (Elems.cons (d := kRef) (x := (⟨t5069.1, t5073.1⟩ : Ref)) (f := []) ⟨rfl, rfl⟩ .nil)) HM.emp) ?_
            rintro v5082 w5088 HM
            replace HM := HM.front 1 rfl rfl
            refine od rfl rfl rfl rfl (does_appendR kRef flat_plain rfl rfl rfl Tryz.underlying25 tsz62 rfl tby62 tz62 rfl rfl (leB_le e5085) (HM.own_rd 1 rfl) HM) ?_
            rintro v5086 w5089 HM
            refine ox rfl rfl rfl rfl (ex_assign rfl rfl) ?_
            refine ops_nil ?_
            refine at_block ?_
            refine at_then ?_
            refine run_region rfl ?_
            refine ox rfl rfl rfl rfl (ex_move rfl rfl) ?_
            refine ox rfl rfl rfl rfl (ex_add rfl rfl rfl) ?_
            refine ox rfl rfl rfl rfl (ex_assign rfl rfl) ?_
            refine ops_nil ?_
            replace HM := (HM.front 1 rfl rfl).drop
            exact at_again k5056 (ρ1 := [(4, v5086), (5, u4930), (6, .int .i64 (wrap64 (a5033 + 1)))]) (Nat.lt_succ_self _) ⟨_, _, _, ho5007, rfl, HM⟩ (Sub.cons rfl (Sub.cons rfl (Sub.cons rfl Sub.nil)))
    · replace ho5007 := cond_f hb5058 ho5007
      refine run_exit ?_
      refine at_then_exit ?_
      refine at_then_exit ?_
      refine at_block_exit ?_
      replace HM := (HM.front 1 rfl rfl).drop
      exact at_mid (ρ' := [(4, v5030)]) ⟨_, _, (Option.some.inj ho5007), rfl, HM⟩ (Sub.cons rfl Sub.nil)
  · rintro _ w5090 ⟨v5003, a5004, rfl, rfl, HM⟩
    replace H := (thn_inr H)
    refine run_seq ?_
    refine run_region rfl ?_
    refine ox rfl rfl rfl rfl (ex_move rfl rfl) ?_
    refine ox rfl rfl rfl rfl (ex_assign rfl rfl) ?_
    refine ox rfl rfl rfl rfl (ex_assign rfl rfl) ?_
    refine ops_nil (at_then ?_)
    refine run_ret ?_
    have hR := Option.some.inj H
    subst hR
    exact at_ret2 rfl rfl rfl ⟨_, rfl, _, rfl, HM⟩

def spec_l1In.f (k : Nat) (x0 : Int) (x1 : Int) (x2 : Int) : Option Bool := some ((decide (x1 ≤ x0)) && (decide (x0 ≤ x2)))
theorem spec_l1In.calls {k : Nat} {x0 : Int} {x1 : Int} {x2 : Int}  {w : World}  {r : Bool} (H : spec_l1In.f k x0 x1 x2 = some r) :
    Calls Tryz.prog 56 ([.int .i64 x0, .int .i64 x1, .int .i64 x2] : List Value).toArray w (fun e w_ => ∃ v, e = .returned v ∧ v = (.bool r) ∧ Mem w [] w_ []) := by
  have HM := Mem.start w
  refine calls_run (N := 15) Tryz.func56 rfl rfl rfl rfl ?_
  unfold spec_l1In.f at H
  refine run_seq ?_
  refine run_region rfl ?_
  refine ox rfl rfl rfl rfl (ex_assign rfl rfl) ?_
  refine ops_nil (at_then (run_seq ?_))
  refine run_meet (fun ρ_ w_ => ρ_ = [(6, .bool ((decide (x1 ≤ x0)) && (decide (x0 ≤ x2))))] ∧ Mem w [] w_ []) ?_ ?_
  · skip
    refine run_region rfl ?_
    refine ox rfl rfl rfl rfl (ex_move rfl rfl) ?_
    refine ox rfl rfl rfl rfl (ex_move rfl rfl) ?_
    refine ox rfl rfl rfl rfl (ex_geq rfl rfl rfl) ?_
    refine ox rfl rfl rfl rfl (ex_move rfl rfl) ?_
    refine bool_cases (decide (x1 ≤ x0)) (fun hg5186 => ?_) (fun hg5186 => ?_)
    · skip
      refine ops_ex rfl (guard_on rfl rfl rfl hg5186) rfl rfl (ex_move rfl rfl) ?_
      refine ops_ex rfl (guard_on rfl rfl rfl hg5186) rfl rfl (ex_move rfl rfl) ?_
      refine ops_ex rfl (guard_on rfl rfl rfl hg5186) rfl rfl (ex_leq rfl rfl rfl) ?_
      refine ops_ex (v := .bool ((decide (x1 ≤ x0)) && (decide (x0 ≤ x2)))) rfl (guard_none rfl) rfl rfl (ex_pand_t rfl rfl hg5186 rfl) ?_
      refine ox rfl rfl rfl rfl (ex_assign rfl rfl) ?_
      refine ops_nil ?_
      exact at_meet [(6, .bool ((decide (x1 ≤ x0)) && (decide (x0 ≤ x2))))] ⟨rfl, HM⟩ (Sub.cons rfl Sub.nil)
    · skip
      refine ops_off rfl (guard_off rfl rfl rfl hg5186) rfl rfl ?_
      refine ops_off rfl (guard_off rfl rfl rfl hg5186) rfl rfl ?_
      refine ops_off rfl (guard_off rfl rfl rfl hg5186) rfl rfl ?_
      have hg5187 : ((decide (x1 ≤ x0)) && (decide (x0 ≤ x2))) = false := by simp only [hg5186, Bool.and_true, Bool.true_and, Bool.and_false, Bool.false_and, Bool.or_true, Bool.true_or, Bool.or_false, Bool.false_or, Bool.not_true, Bool.not_false, Bool.not_not]
      refine ops_ex (v := .bool ((decide (x1 ≤ x0)) && (decide (x0 ≤ x2)))) rfl (guard_none rfl) rfl rfl (ex_pand_f rfl rfl hg5186) ?_
      refine ox rfl rfl rfl rfl (ex_assign rfl rfl) ?_
      refine ops_nil ?_
      exact at_meet [(6, .bool ((decide (x1 ≤ x0)) && (decide (x0 ≤ x2))))] ⟨rfl, HM⟩ (Sub.cons rfl Sub.nil)
  · rintro _ w5188 ⟨rfl, HM⟩
    refine at_then ?_
    refine run_ret ?_
    have hR := Option.some.inj H
    subst hR
    exact at_ret1 rfl rfl ⟨_, rfl, rfl, HM⟩

def spec_l1Key.f (k : Nat) (x0 : Int) : Option Bool := ((spec_l1In.f k x0 1 999).bind fun t5200 => some t5200)
theorem spec_l1Key.calls {k : Nat} {x0 : Int}  {w : World}  {r : Bool} (H : spec_l1Key.f k x0 = some r) :
    Calls Tryz.prog 57 ([.int .i64 x0] : List Value).toArray w (fun e w_ => ∃ v, e = .returned v ∧ v = (.bool r) ∧ Mem w [] w_ []) := by
  have HM := Mem.start w
  refine calls_run (N := 5) Tryz.func57 rfl rfl rfl rfl ?_
  unfold spec_l1Key.f at H
  refine run_seq ?_
  refine run_region rfl ?_
  refine ox rfl rfl rfl rfl (ex_assign rfl rfl) ?_
  refine ops_nil (at_then (run_seq ?_))
  obtain ⟨t5200, h5201, H⟩ := bind_some H
  refine run_region rfl ?_
  refine ox rfl rfl rfl rfl (ex_move rfl rfl) ?_
  refine od rfl rfl rfl rfl (does_callk rfl callok56 rfl (spec_l1In.calls (x0 := x0) (x1 := 1) (x2 := 999) h5201)) ?_
  rintro _ w5202 ⟨rfl, hn⟩
  replace HM : Mem w [] w5202 [] := HM.call hn
  refine ox rfl rfl rfl rfl (ex_assign rfl rfl) ?_
  refine ops_nil (at_then ?_)
  refine run_ret ?_
  have hR := Option.some.inj H
  subst hR
  exact at_ret1 rfl rfl ⟨_, rfl, rfl, HM⟩

def spec_l2Height.f (k : Nat) (x0 : Int) : Option Bool := ((spec_l1In.f k x0 0 999).bind fun t5225 => some t5225)
theorem spec_l2Height.calls {k : Nat} {x0 : Int}  {w : World}  {r : Bool} (H : spec_l2Height.f k x0 = some r) :
    Calls Tryz.prog 91 ([.int .i64 x0] : List Value).toArray w (fun e w_ => ∃ v, e = .returned v ∧ v = (.bool r) ∧ Mem w [] w_ []) := by
  have HM := Mem.start w
  refine calls_run (N := 5) Tryz.func91 rfl rfl rfl rfl ?_
  unfold spec_l2Height.f at H
  refine run_seq ?_
  refine run_region rfl ?_
  refine ox rfl rfl rfl rfl (ex_assign rfl rfl) ?_
  refine ops_nil (at_then (run_seq ?_))
  obtain ⟨t5225, h5226, H⟩ := bind_some H
  refine run_region rfl ?_
  refine ox rfl rfl rfl rfl (ex_move rfl rfl) ?_
  refine od rfl rfl rfl rfl (does_callk rfl callok56 rfl (spec_l1In.calls (x0 := x0) (x1 := 0) (x2 := 999) h5226)) ?_
  rintro _ w5227 ⟨rfl, hn⟩
  replace HM : Mem w [] w5227 [] := HM.call hn
  refine ox rfl rfl rfl rfl (ex_assign rfl rfl) ?_
  refine ops_nil (at_then ?_)
  refine run_ret ?_
  have hR := Option.some.inj H
  subst hR
  exact at_ret1 rfl rfl ⟨_, rfl, rfl, HM⟩
end Go.Proofs.YtmaolhocmkkmjaaGreatDoor.Zk
