/- What functions of the program compute, each as a plain function, and that they do. Conditions: as each theorem states them. -/
import Derived.Test.YtcpacdbdehphkaaGreatDoorParseTxZkF6
namespace Go.Proofs.YtcpacdbdehphkaaGreatDoor.Zk
open Go Go.RowKit Go.IntWalk Go.Proofs
set_option linter.unusedVariables false
set_option linter.unusedSimpArgs false
set_option maxRecDepth 100000
set_option maxHeartbeats 4000000
def impl_readTx.l0 (t4702 : List ByteArray) : Nat → (List Ref) → Int → Option ((List Ref))
  | 0, _, _ => none
  | k + 1, a4722, a4724 => (bif (decide (a4724 < (t4702.length : Int))) then (chk (idxOk a4724 t4702.length) ((strings_Cut.f k (gt t4702 a4724) (⟨#[58]⟩ : ByteArray)).bind fun t4744 => ((impl_number.f k t4744.1).bind fun t4747 => ((impl_number.f k t4744.2.1).bind fun t4749 => (chk (leB ((a4722.length + ([(⟨t4747, t4749⟩ : Ref)] : List Ref).length) * 16) 140737488355328) (impl_readTx.l0 t4702 k (a4722 ++ ([(⟨t4747, t4749⟩ : Ref)] : List Ref)) (wrap64 (a4724 + 1)))))))) else some a4722)
theorem impl_readTx.l0_z (t4702 : List ByteArray) (a4722 : List Ref) (a4724 : Int) : impl_readTx.l0 t4702 0 a4722 a4724 = none := rfl
theorem impl_readTx.l0_s (t4702 : List ByteArray) (k : Nat) (a4722 : List Ref) (a4724 : Int) : impl_readTx.l0 t4702 (k + 1) a4722 a4724 = (bif (decide (a4724 < (t4702.length : Int))) then (chk (idxOk a4724 t4702.length) ((strings_Cut.f k (gt t4702 a4724) (⟨#[58]⟩ : ByteArray)).bind fun t4744 => ((impl_number.f k t4744.1).bind fun t4747 => ((impl_number.f k t4744.2.1).bind fun t4749 => (chk (leB ((a4722.length + ([(⟨t4747, t4749⟩ : Ref)] : List Ref).length) * 16) 140737488355328) (impl_readTx.l0 t4702 k (a4722 ++ ([(⟨t4747, t4749⟩ : Ref)] : List Ref)) (wrap64 (a4724 + 1)))))))) else some a4722) := rfl
def impl_readTx.l1 (a4615 : List ByteArray) : Nat → (List Out) → Int → Option ((Tx × Bool) ⊕ ((List Out)))
  | 0, _, _ => none
  | k + 1, a4866, a4868 => (bif (decide (a4868 < ((a4615.drop ((1 : Int)).toNat).length : Int))) then (chk (idxOk a4868 (a4615.drop ((1 : Int)).toNat).length) ((impl_readOut.f k (gt (a4615.drop ((1 : Int)).toNat) a4868)).bind fun t4893 => (bif !t4893.2 then some (.inl ((⟨0, 0, ([] : List Ref), ([] : List Out)⟩ : Tx), false)) else (chk (leB ((a4866.length + ([(⟨t4893.1.fValue, (⟨t4893.1.fRule.fKeys, t4893.1.fRule.fNeed, t4893.1.fRule.fAfter⟩ : Rule)⟩ : Out)] : List Out).length) * 48) 140737488355328) (impl_readTx.l1 a4615 k (a4866 ++ ([(⟨t4893.1.fValue, (⟨t4893.1.fRule.fKeys, t4893.1.fRule.fNeed, t4893.1.fRule.fAfter⟩ : Rule)⟩ : Out)] : List Out)) (wrap64 (a4868 + 1))))))) else some (.inr a4866))
theorem impl_readTx.l1_z (a4615 : List ByteArray) (a4866 : List Out) (a4868 : Int) : impl_readTx.l1 a4615 0 a4866 a4868 = none := rfl
theorem impl_readTx.l1_s (a4615 : List ByteArray) (k : Nat) (a4866 : List Out) (a4868 : Int) : impl_readTx.l1 a4615 (k + 1) a4866 a4868 = (bif (decide (a4868 < ((a4615.drop ((1 : Int)).toNat).length : Int))) then (chk (idxOk a4868 (a4615.drop ((1 : Int)).toNat).length) ((impl_readOut.f k (gt (a4615.drop ((1 : Int)).toNat) a4868)).bind fun t4893 => (bif !t4893.2 then some (.inl ((⟨0, 0, ([] : List Ref), ([] : List Out)⟩ : Tx), false)) else (chk (leB ((a4866.length + ([(⟨t4893.1.fValue, (⟨t4893.1.fRule.fKeys, t4893.1.fRule.fNeed, t4893.1.fRule.fAfter⟩ : Rule)⟩ : Out)] : List Out).length) * 48) 140737488355328) (impl_readTx.l1 a4615 k (a4866 ++ ([(⟨t4893.1.fValue, (⟨t4893.1.fRule.fKeys, t4893.1.fRule.fNeed, t4893.1.fRule.fAfter⟩ : Rule)⟩ : Out)] : List Out)) (wrap64 (a4868 + 1))))))) else some (.inr a4866)) := rfl
def impl_readTx.f (k : Nat) (x0 : ByteArray) : Option (Tx × Bool) := ((strings_Split.f k x0 (⟨#[32]⟩ : ByteArray)).bind fun t4548 => (chk (idxOk (0 : Int) t4548.length) ((impl_kindWords.f k).bind fun t4563 => ((slices_Index_string.f k t4563 (gt t4548 (0 : Int))).bind fun t4567 => (bif ((decide (300 < (x0.size : Int))) || (decide (t4567 < 0))) then some ((⟨0, 0, ([] : List Ref), ([] : List Out)⟩ : Tx), false) else (chk (cutOk (1 : Int) t4548.length) ((bif ((t4567 != 0) && (decide (0 < ((t4548.drop ((1 : Int)).toNat).length : Int)))) then (chk (idxOk (0 : Int) (t4548.drop ((1 : Int)).toNat).length) ((impl_number.f k (gt (t4548.drop ((1 : Int)).toNat) (0 : Int))).bind fun t4626 => (chk (cutOk (1 : Int) (t4548.drop ((1 : Int)).toNat).length) (some ((t4548.drop ((1 : Int)).toNat).drop ((1 : Int)).toNat, t4626))))) else some (t4548.drop ((1 : Int)).toNat, 0)).bind (cur2 (fun a4615 a4617 => (bif ((decide ((a4615.length : Int) < 2)) || (decide (5 < (a4615.length : Int)))) then some ((⟨0, 0, ([] : List Ref), ([] : List Out)⟩ : Tx), false) else ((chk (idxOk (0 : Int) a4615.length) ((strings_Split.f k (gt a4615 (0 : Int)) (⟨#[43]⟩ : ByteArray)).bind fun t4702 => impl_readTx.l0 t4702 k ([] : List Ref) 0)).bind (fun a4696 => ((chk (cutOk (1 : Int) a4615.length) (impl_readTx.l1 a4615 k ([] : List Out) 0)).bind fun o4841 => thn o4841 (fun r => some r) (fun a4839 => ((impl_TxFault.f k (⟨t4567, a4617, a4696, a4839⟩ : Tx)).bind fun t4921 => (bif (t4921 != 0) then some ((⟨0, 0, ([] : List Ref), ([] : List Out)⟩ : Tx), false) else ((impl_txText.f k (⟨t4567, a4617, a4696, a4839⟩ : Tx)).bind fun t4928 => some ((⟨t4567, a4617, a4696, a4839⟩ : Tx), ((t4928.2 == 0) && (sEq t4928.1 x0))))))))))))))))))))
theorem impl_readTx.calls {k : Nat} {x0 : ByteArray}  {w : World} (htab : TabP w)  {r : Tx × Bool} (H : impl_readTx.f k x0 = some r) :
    Calls Tryz.prog 10 ([.string x0] : List Value).toArray w (fun e w_ => ∃ v, e = .returned v ∧ ∃ u0 : Value, ∃ u1 : Value, v = (.tuple #[.agg #[.int .i64 r.1.fKind, .int .i64 r.1.fMember, u0, u1], .bool r.2]) ∧ Mem w [] w_ [own kRef 60 u0 r.1.fIns, own kOut 49 u1 r.1.fOuts]) := by
  have HM := Mem.start w
  refine calls_run (N := 125) Tryz.func10 rfl rfl rfl rfl ?_
  unfold impl_readTx.f at H
  refine run_seq ?_
  refine run_region rfl ?_
  refine ops_does rfl (guard_none rfl) rfl rfl (does_alloc (cs := [.int .i64 0, .int .i64 0, .slice none 0 0, .slice none 0 0]) rfl tz25 rfl HM) ?_
  rintro _ w4547 ⟨b4544, rfl, HM⟩
  refine ops_ex rfl (guard_none rfl) rfl rfl (ex_assign rfl rfl) ?_
  refine ops_nil ?_
  refine at_then ?_
  refine run_seq ?_
  obtain ⟨t4548, h4549, H⟩ := bind_some H
  refine run_region rfl ?_
  refine ops_ex rfl (guard_none rfl) rfl rfl (ex_move rfl rfl) ?_
  refine ops_does rfl (guard_none rfl) rfl rfl (does_callk rfl callok21 rfl (strings_Split.calls (x0 := x0) (x1 := (⟨#[32]⟩ : ByteArray)) (HM.tabP htab) h4549)) ?_
  rintro u4550 w4552 ⟨_, rfl, hn⟩
  replace HM : Mem w [] w4552 [own kStr 9 u4550 t4548, box b4544 25 [.int .i64 0, .int .i64 0, .slice none 0 0, .slice none 0 0]] := HM.call hn
  refine ops_ex rfl (guard_none rfl) rfl rfl (ex_assign rfl rfl) ?_
  refine ops_nil ?_
  replace HM := HM.front 1 rfl rfl
  obtain ⟨F4553, hF4554, hFn4555, hFl4556, HMh4557, hcl4558⟩ := HM.hide (Ms := [box b4544 25 [.int .i64 0, .int .i64 0, .slice none 0 0, .slice none 0 0]])
  have hz18 := (HMh4557.own_rd 0 rfl)
  replace htab := HMh4557.tabP htab
  have hwo := hide_olds w4552 F4553
  generalize hideB w4552 F4553 = wz4559 at *
  have HM := Mem.startX hF4554 hFn4555 hFl4556
  refine at_then ?_
  refine run_seq ?_
  obtain ⟨e4561, H⟩ := chk_some H
  obtain ⟨t4563, h4564, H⟩ := bind_some H
  obtain ⟨t4567, h4568, H⟩ := bind_some H
  refine run_meet (fun ρ_ w_ => ∃ b4569 : Nat, ρ_ = [(0, .string x0), (2, .pointer (some ⟨b4544, 0, none⟩)), (4, u4550), (5, .pointer (some ⟨b4569, 0, none⟩))] ∧ Mem w4552 F4553 w_ [box b4544 25 [.int .i64 0, .int .i64 0, .slice none 0 0, .slice none 0 0], box b4569 25 [.int .i64 t4567, .int .i64 0, .slice none 0 0, .slice none 0 0]]) ?_ ?_
  · skip
    refine run_draw (fun w_ => Mem w4552 F4553 w_ [box b4544 25 [.int .i64 0, .int .i64 0, .slice none 0 0, .slice none 0 0]]) mixed rfl (l := #[false, false, false, false, false, false, false, false]) rfl ?_
    replace HM := HM.grow (fr_drew _)
    have hS := Mem.suf (M := []) HM
    refine drw_take (i := 1) (l' := #[false, true, false, false, false, false, false, false]) rfl (guard_none rfl) rfl rfl (by kernel_rfl) (fun w_ hS_ => (ex_move rfl rfl)) hS ?_
    have hc4562 : CellsAt _ (sb u4550) (so u4550 + ((0 : Int)).toNat * 1) [(.string (gt t4548 (0 : Int)))] := rd_plain hz18 e4561
    refine drw_take (i := 2) (l' := #[false, true, true, false, false, false, false, false]) rfl (guard_none rfl) rfl rfl (by kernel_rfl) (fun w_ hS_ => (ex_indexAddr (d := kStr) rfl rfl rfl Tryz.underlying36 tsz9 hz18 (idx_lo e4561) (idx_hi e4561))) hS ?_
    refine drw_take (i := 3) (l' := #[false, true, true, true, false, false, false, false]) rfl (guard_none rfl) rfl rfl (by kernel_rfl) (fun w_ hS_ => (ex_load1 rfl rfl Tryz.underlying9 rfl ((hS_.ato hwo hc4562) 0 _ rfl))) hS ?_
    refine drw_any [0, 6] (by kernel_rfl) rfl (.cons ?_ (.cons ?_ .nil))
    · skip
      refine br_does (l' := #[true, true, true, true, false, false, false, false]) rfl (guard_none rfl) rfl rfl (by kernel_rfl) (does_callk rfl callok23 rfl (impl_kindWords.calls h4564)) ?_
      rintro u4565 w4572 ⟨_, rfl, hn⟩
      replace HM : Mem w4552 F4553 w4572 [own kStr 9 u4565 t4563, box b4544 25 [.int .i64 0, .int .i64 0, .slice none 0 0, .slice none 0 0]] := HM.call hn
      refine ⟨Mem.suf (M := [own kStr 9 u4565 t4563]) HM, ?_⟩
      have hS := Mem.suf (M := [own kStr 9 u4565 t4563]) HM
      refine drw_any [4, 6] (by kernel_rfl) rfl (.cons ?_ (.cons ?_ .nil))
      · skip
        refine br_does (l' := #[true, true, true, true, true, false, false, false]) rfl (guard_none rfl) rfl rfl (by kernel_rfl) (does_callk rfl callok22 rfl (slices_Index_string.calls (x0 := t4563) (x1 := (gt t4548 (0 : Int))) (HM.own_rd 0 rfl) h4568)) ?_
        rintro _ w4573 ⟨rfl, hn⟩
        replace HM : Mem w4552 F4553 w4573 [own kStr 9 u4565 t4563, box b4544 25 [.int .i64 0, .int .i64 0, .slice none 0 0, .slice none 0 0]] := HM.call hn
        refine ⟨Mem.suf (M := [own kStr 9 u4565 t4563]) HM, ?_⟩
        have hS := Mem.suf (M := [own kStr 9 u4565 t4563]) HM
        refine drw_take (i := 5) (l' := #[true, true, true, true, true, true, false, false]) rfl (guard_none rfl) rfl rfl (by kernel_rfl) (fun w_ hS_ => (ex_build (cells := #[(.int .i64 t4567), (.int .i64 0), (.slice none 0 0), (.slice none 0 0)]) rfl rfl (by kernel_rfl))) hS ?_
        refine drw_any [6] (by kernel_rfl) rfl (.cons ?_ .nil)
        refine br_does (l' := #[true, true, true, true, true, true, true, false]) rfl (guard_none rfl) rfl rfl (by kernel_rfl) (does_alloc (cs := [.int .i64 0, .int .i64 0, .slice none 0 0, .slice none 0 0]) rfl tz25 rfl HM) ?_
        rintro _ w4574 ⟨b4569, rfl, HM⟩
        refine ⟨Mem.suf (M := [box b4569 25 [.int .i64 0, .int .i64 0, .slice none 0 0, .slice none 0 0], own kStr 9 u4565 t4563]) HM, ?_⟩
        have hS := Mem.suf (M := [box b4569 25 [.int .i64 0, .int .i64 0, .slice none 0 0, .slice none 0 0], own kStr 9 u4565 t4563]) HM
        refine drw_any [7] (by kernel_rfl) rfl (.cons ?_ .nil)
        refine br_doesS (l' := #[true, true, true, true, true, true, true, true]) rfl (guard_none rfl) rfl (by kernel_rfl) (does_store (vs := [.int .i64 t4567, .int .i64 0, .slice none 0 0, .slice none 0 0]) (cs' := [.int .i64 t4567, .int .i64 0, .slice none 0 0, .slice none 0 0]) rfl rfl rfl rfl tsz25 (Ones.int (Ones.int (Ones.sl (Ones.sl Ones.nil)))) rfl rfl HM) ?_
        rintro w4575 HM
        refine ⟨Mem.suf (M := [box b4569 25 [.int .i64 t4567, .int .i64 0, .slice none 0 0, .slice none 0 0], own kStr 9 u4565 t4563]) HM, ?_⟩
        have hS := Mem.suf (M := [box b4569 25 [.int .i64 t4567, .int .i64 0, .slice none 0 0, .slice none 0 0], own kStr 9 u4565 t4563]) HM
        refine drw_done (by kernel_rfl) ?_
        replace HM := (HM.front 1 rfl rfl).drop
        replace HM := HM.front 1 rfl rfl
        exact at_meet [(0, .string x0), (2, .pointer (some ⟨b4544, 0, none⟩)), (4, u4550), (5, .pointer (some ⟨b4569, 0, none⟩))] ⟨_, rfl, HM⟩ (Sub.cons rfl (Sub.cons rfl (Sub.cons rfl (Sub.cons rfl Sub.nil))))
      · skip
        refine br_does (l' := #[true, true, true, true, false, false, true, false]) rfl (guard_none rfl) rfl rfl (by kernel_rfl) (does_alloc (cs := [.int .i64 0, .int .i64 0, .slice none 0 0, .slice none 0 0]) rfl tz25 rfl HM) ?_
        rintro _ w4576 ⟨b4569, rfl, HM⟩
        refine ⟨Mem.suf (M := [box b4569 25 [.int .i64 0, .int .i64 0, .slice none 0 0, .slice none 0 0], own kStr 9 u4565 t4563]) HM, ?_⟩
        have hS := Mem.suf (M := [box b4569 25 [.int .i64 0, .int .i64 0, .slice none 0 0, .slice none 0 0], own kStr 9 u4565 t4563]) HM
        refine drw_any [4] (by kernel_rfl) rfl (.cons ?_ .nil)
        refine br_does (l' := #[true, true, true, true, true, false, true, false]) rfl (guard_none rfl) rfl rfl (by kernel_rfl) (does_callk rfl callok22 rfl (slices_Index_string.calls (x0 := t4563) (x1 := (gt t4548 (0 : Int))) (HM.own_rd 1 rfl) h4568)) ?_
        rintro _ w4577 ⟨rfl, hn⟩
        replace HM : Mem w4552 F4553 w4577 [box b4569 25 [.int .i64 0, .int .i64 0, .slice none 0 0, .slice none 0 0], own kStr 9 u4565 t4563, box b4544 25 [.int .i64 0, .int .i64 0, .slice none 0 0, .slice none 0 0]] := HM.call hn
        refine ⟨Mem.suf (M := [box b4569 25 [.int .i64 0, .int .i64 0, .slice none 0 0, .slice none 0 0], own kStr 9 u4565 t4563]) HM, ?_⟩
        have hS := Mem.suf (M := [box b4569 25 [.int .i64 0, .int .i64 0, .slice none 0 0, .slice none 0 0], own kStr 9 u4565 t4563]) HM
        refine drw_take (i := 5) (l' := #[true, true, true, true, true, true, true, false]) rfl (guard_none rfl) rfl rfl (by kernel_rfl) (fun w_ hS_ => (ex_build (cells := #[(.int .i64 t4567), (.int .i64 0), (.slice none 0 0), (.slice none 0 0)]) rfl rfl (by kernel_rfl))) hS ?_
        refine drw_any [7] (by kernel_rfl) rfl (.cons ?_ .nil)
        refine br_doesS (l' := #[true, true, true, true, true, true, true, true]) rfl (guard_none rfl) rfl (by kernel_rfl) (does_store (vs := [.int .i64 t4567, .int .i64 0, .slice none 0 0, .slice none 0 0]) (cs' := [.int .i64 t4567, .int .i64 0, .slice none 0 0, .slice none 0 0]) rfl rfl rfl rfl tsz25 (Ones.int (Ones.int (Ones.sl (Ones.sl Ones.nil)))) rfl rfl HM) ?_
        rintro w4578 HM
        refine ⟨Mem.suf (M := [box b4569 25 [.int .i64 t4567, .int .i64 0, .slice none 0 0, .slice none 0 0], own kStr 9 u4565 t4563]) HM, ?_⟩
        have hS := Mem.suf (M := [box b4569 25 [.int .i64 t4567, .int .i64 0, .slice none 0 0, .slice none 0 0], own kStr 9 u4565 t4563]) HM
        refine drw_done (by kernel_rfl) ?_
        replace HM := (HM.front 1 rfl rfl).drop
        replace HM := HM.front 1 rfl rfl
        exact at_meet [(0, .string x0), (2, .pointer (some ⟨b4544, 0, none⟩)), (4, u4550), (5, .pointer (some ⟨b4569, 0, none⟩))] ⟨_, rfl, HM⟩ (Sub.cons rfl (Sub.cons rfl (Sub.cons rfl (Sub.cons rfl Sub.nil))))
    · skip
      refine br_does (l' := #[false, true, true, true, false, false, true, false]) rfl (guard_none rfl) rfl rfl (by kernel_rfl) (does_alloc (cs := [.int .i64 0, .int .i64 0, .slice none 0 0, .slice none 0 0]) rfl tz25 rfl HM) ?_
      rintro _ w4579 ⟨b4569, rfl, HM⟩
      refine ⟨Mem.suf (M := [box b4569 25 [.int .i64 0, .int .i64 0, .slice none 0 0, .slice none 0 0]]) HM, ?_⟩
      have hS := Mem.suf (M := [box b4569 25 [.int .i64 0, .int .i64 0, .slice none 0 0, .slice none 0 0]]) HM
      refine drw_any [0] (by kernel_rfl) rfl (.cons ?_ .nil)
      refine br_does (l' := #[true, true, true, true, false, false, true, false]) rfl (guard_none rfl) rfl rfl (by kernel_rfl) (does_callk rfl callok23 rfl (impl_kindWords.calls h4564)) ?_
      rintro u4565 w4580 ⟨_, rfl, hn⟩
      replace HM : Mem w4552 F4553 w4580 [own kStr 9 u4565 t4563, box b4569 25 [.int .i64 0, .int .i64 0, .slice none 0 0, .slice none 0 0], box b4544 25 [.int .i64 0, .int .i64 0, .slice none 0 0, .slice none 0 0]] := HM.call hn
      refine ⟨Mem.suf (M := [own kStr 9 u4565 t4563, box b4569 25 [.int .i64 0, .int .i64 0, .slice none 0 0, .slice none 0 0]]) HM, ?_⟩
      have hS := Mem.suf (M := [own kStr 9 u4565 t4563, box b4569 25 [.int .i64 0, .int .i64 0, .slice none 0 0, .slice none 0 0]]) HM
      refine drw_any [4] (by kernel_rfl) rfl (.cons ?_ .nil)
      refine br_does (l' := #[true, true, true, true, true, false, true, false]) rfl (guard_none rfl) rfl rfl (by kernel_rfl) (does_callk rfl callok22 rfl (slices_Index_string.calls (x0 := t4563) (x1 := (gt t4548 (0 : Int))) (HM.own_rd 0 rfl) h4568)) ?_
      rintro _ w4581 ⟨rfl, hn⟩
      replace HM : Mem w4552 F4553 w4581 [own kStr 9 u4565 t4563, box b4569 25 [.int .i64 0, .int .i64 0, .slice none 0 0, .slice none 0 0], box b4544 25 [.int .i64 0, .int .i64 0, .slice none 0 0, .slice none 0 0]] := HM.call hn
      refine ⟨Mem.suf (M := [own kStr 9 u4565 t4563, box b4569 25 [.int .i64 0, .int .i64 0, .slice none 0 0, .slice none 0 0]]) HM, ?_⟩
      have hS := Mem.suf (M := [own kStr 9 u4565 t4563, box b4569 25 [.int .i64 0, .int .i64 0, .slice none 0 0, .slice none 0 0]]) HM
      refine drw_take (i := 5) (l' := #[true, true, true, true, true, true, true, false]) rfl (guard_none rfl) rfl rfl (by kernel_rfl) (fun w_ hS_ => (ex_build (cells := #[(.int .i64 t4567), (.int .i64 0), (.slice none 0 0), (.slice none 0 0)]) rfl rfl (by kernel_rfl))) hS ?_
      replace HM := HM.front 1 rfl rfl
      refine drw_any [7] (by kernel_rfl) rfl (.cons ?_ .nil)
      refine br_doesS (l' := #[true, true, true, true, true, true, true, true]) rfl (guard_none rfl) rfl (by kernel_rfl) (does_store (vs := [.int .i64 t4567, .int .i64 0, .slice none 0 0, .slice none 0 0]) (cs' := [.int .i64 t4567, .int .i64 0, .slice none 0 0, .slice none 0 0]) rfl rfl rfl rfl tsz25 (Ones.int (Ones.int (Ones.sl (Ones.sl Ones.nil)))) rfl rfl HM) ?_
      rintro w4582 HM
      refine ⟨Mem.suf (M := [box b4569 25 [.int .i64 t4567, .int .i64 0, .slice none 0 0, .slice none 0 0], own kStr 9 u4565 t4563]) HM, ?_⟩
      have hS := Mem.suf (M := [box b4569 25 [.int .i64 t4567, .int .i64 0, .slice none 0 0, .slice none 0 0], own kStr 9 u4565 t4563]) HM
      refine drw_done (by kernel_rfl) ?_
      replace HM := (HM.front 1 rfl rfl).drop
      replace HM := HM.front 1 rfl rfl
      exact at_meet [(0, .string x0), (2, .pointer (some ⟨b4544, 0, none⟩)), (4, u4550), (5, .pointer (some ⟨b4569, 0, none⟩))] ⟨_, rfl, HM⟩ (Sub.cons rfl (Sub.cons rfl (Sub.cons rfl (Sub.cons rfl Sub.nil))))
  · rintro _ w4583 ⟨b4569, rfl, HM⟩
    refine at_then ?_
    refine run_seq ?_
    refine run_seq ?_
    refine run_meet (fun ρ_ w_ => ρ_ = [(0, .string x0), (2, .pointer (some ⟨b4544, 0, none⟩)), (4, u4550), (5, .pointer (some ⟨b4569, 0, none⟩)), (32, .bool ((decide (300 < (x0.size : Int))) || (decide (t4567 < 0))))] ∧ Mem w4552 F4553 w_ [box b4544 25 [.int .i64 0, .int .i64 0, .slice none 0 0, .slice none 0 0], box b4569 25 [.int .i64 t4567, .int .i64 0, .slice none 0 0, .slice none 0 0]]) ?_ ?_
    · skip
      refine run_region rfl ?_
      refine ops_ex rfl (guard_none rfl) rfl rfl (ex_move rfl rfl) ?_
      refine ops_ex rfl (guard_none rfl) rfl rfl (ex_strlen rfl rfl Tryz.underlying9) ?_
      refine ops_ex rfl (guard_none rfl) rfl rfl (ex_gtr rfl rfl rfl) ?_
      refine ops_ex rfl (guard_none rfl) rfl rfl (ex_move rfl rfl) ?_
      refine bool_cases (decide (300 < (x0.size : Int))) (fun hg4585 => ?_) (fun hg4585 => ?_)
      · skip
        refine ops_off rfl (guard_off rfl rfl rfl hg4585) rfl rfl ?_
        refine ops_off rfl (guard_off rfl rfl rfl hg4585) rfl rfl ?_
        refine ops_off rfl (guard_off rfl rfl rfl hg4585) rfl rfl ?_
        have hg4586 : ((decide (300 < (x0.size : Int))) || (decide (t4567 < 0))) = true := by simp only [hg4585, Bool.and_true, Bool.true_and, Bool.and_false, Bool.false_and, Bool.or_true, Bool.true_or, Bool.or_false, Bool.false_or, Bool.not_true, Bool.not_false, Bool.not_not]
        refine ops_ex (v := .bool ((decide (300 < (x0.size : Int))) || (decide (t4567 < 0)))) rfl (guard_none rfl) rfl rfl (ex_por_t rfl rfl hg4585) ?_
        refine ops_nil ?_
        exact at_meet [(0, .string x0), (2, .pointer (some ⟨b4544, 0, none⟩)), (4, u4550), (5, .pointer (some ⟨b4569, 0, none⟩)), (32, .bool ((decide (300 < (x0.size : Int))) || (decide (t4567 < 0))))] ⟨rfl, HM⟩ (Sub.cons rfl (Sub.cons rfl (Sub.cons rfl (Sub.cons rfl (Sub.cons rfl Sub.nil)))))
      · skip
        refine ops_ex rfl (guard_on rfl rfl rfl hg4585) rfl rfl (ex_fieldAddr (off' := 0) rfl rfl Tryz.underlying25 rfl tsz2 rfl) ?_
        refine ops_ex rfl (guard_on rfl rfl rfl hg4585) rfl rfl (ex_load1 rfl rfl Tryz.underlying2 rfl ((HM.box_at 1 rfl) 0 _ rfl)) ?_
        refine ops_ex rfl (guard_on rfl rfl rfl hg4585) rfl rfl (ex_lss rfl rfl rfl) ?_
        refine ops_ex (v := .bool ((decide (300 < (x0.size : Int))) || (decide (t4567 < 0)))) rfl (guard_none rfl) rfl rfl (ex_por_f rfl rfl hg4585 rfl) ?_
        refine ops_nil ?_
        exact at_meet [(0, .string x0), (2, .pointer (some ⟨b4544, 0, none⟩)), (4, u4550), (5, .pointer (some ⟨b4569, 0, none⟩)), (32, .bool ((decide (300 < (x0.size : Int))) || (decide (t4567 < 0))))] ⟨rfl, HM⟩ (Sub.cons rfl (Sub.cons rfl (Sub.cons rfl (Sub.cons rfl (Sub.cons rfl Sub.nil)))))
    · rintro _ w4587 ⟨rfl, HM⟩
      refine at_then ?_
      refine run_cond (b := ((decide (300 < (x0.size : Int))) || (decide (t4567 < 0)))) rfl (fun hb4588 => ?_) (fun hb4588 => ?_)
      · replace H := cond_t hb4588 H
        refine run_seq ?_
        refine run_region rfl ?_
        refine ops_ex rfl (guard_none rfl) rfl rfl (ex_build (cells := #[(.int .i64 0), (.int .i64 0), (.slice none 0 0), (.slice none 0 0)]) rfl rfl (by kernel_rfl)) ?_
        refine ops_doesS rfl (guard_none rfl) rfl (does_store (vs := [.int .i64 0, .int .i64 0, .slice none 0 0, .slice none 0 0]) (cs' := [.int .i64 0, .int .i64 0, .slice none 0 0, .slice none 0 0]) rfl rfl rfl rfl tsz25 (Ones.int (Ones.int (Ones.sl (Ones.sl Ones.nil)))) rfl rfl HM) ?_
        rintro w4589 HM
        refine ops_ex rfl (guard_none rfl) rfl rfl (ex_assign rfl rfl) ?_
        refine ops_nil ?_
        refine at_then ?_
        refine run_ret ?_
        refine at_then_ret ?_
        replace HM := hcl4558 _ _ HM
        replace HM := HM.empty kRef 60 none
        replace HM := HM.empty kOut 49 none
        replace HM := (HM.front 3 rfl rfl).drop
        replace HM := (HM.front 3 rfl rfl).drop
        replace HM := HM.front 1 rfl rfl
        replace HM := HM.front 2 rfl rfl
        have hcb0 := HM.box_at 0 rfl
        replace HM := (HM.front 0 rfl rfl).drop
        have hR := Option.some.inj H
        subst hR
        exact at_retN1 rfl rfl rfl Tryz.underlying25 rfl tsz25 rfl hcb0 ⟨_, rfl, _, _, rfl, HM⟩
      · replace H := cond_f hb4588 H
        refine run_skip ?_
        refine at_then ?_
        refine run_seq ?_
        obtain ⟨e4592, H⟩ := chk_some H
        refine run_region rfl ?_
        refine ops_ex rfl (guard_none rfl) rfl rfl (ex_move rfl rfl) ?_
        refine ops_exE rfl (guard_none rfl) rfl rfl (ex_cutL kStr rfl rfl rfl Tryz.underlying36 tsz9 hz18 e4592) ?_
        rintro u4593 hr4595
        refine ops_ex rfl (guard_none rfl) rfl rfl (ex_assign rfl rfl) ?_
        refine ops_nil ?_
        refine at_then ?_
        obtain ⟨o4618, ho4619, H⟩ := bind_some H
        refine run_mid (fun ρ_ w_ => ∃ v4614 : Value, ∃ a4615 : List ByteArray, ∃ a4617 : Int, (a4615, a4617) = o4618 ∧ ρ_ = [(0, .string x0), (2, .pointer (some ⟨b4544, 0, none⟩)), (4, v4614), (5, .pointer (some ⟨b4569, 0, none⟩))] ∧ RdS kStr wz4559 v4614 a4615 ∧ Mem w4552 F4553 w_ [box b4544 25 [.int .i64 0, .int .i64 0, .slice none 0 0, .slice none 0 0], box b4569 25 [.int .i64 t4567, .int .i64 a4617, .slice none 0 0, .slice none 0 0]]) ?_ ?_
        · clear H
          refine run_seq ?_
          refine run_meet (fun ρ_ w_ => ρ_ = [(0, .string x0), (2, .pointer (some ⟨b4544, 0, none⟩)), (4, u4593), (5, .pointer (some ⟨b4569, 0, none⟩)), (43, .bool ((t4567 != 0) && (decide (0 < ((t4548.drop ((1 : Int)).toNat).length : Int)))))] ∧ Mem w4552 F4553 w_ [box b4544 25 [.int .i64 0, .int .i64 0, .slice none 0 0, .slice none 0 0], box b4569 25 [.int .i64 t4567, .int .i64 0, .slice none 0 0, .slice none 0 0]]) ?_ ?_
          · skip
            refine run_region rfl ?_
            refine ops_ex rfl (guard_none rfl) rfl rfl (ex_fieldAddr (off' := 0) rfl rfl Tryz.underlying25 rfl tsz2 rfl) ?_
            refine ops_ex rfl (guard_none rfl) rfl rfl (ex_load1 rfl rfl Tryz.underlying2 rfl ((HM.box_at 1 rfl) 0 _ rfl)) ?_
            refine ops_ex rfl (guard_none rfl) rfl rfl (ex_neq rfl rfl rfl) ?_
            refine ops_ex rfl (guard_none rfl) rfl rfl (ex_move rfl rfl) ?_
            refine bool_cases (t4567 != 0) (fun hg4620 => ?_) (fun hg4620 => ?_)
            · skip
              refine ops_ex rfl (guard_on rfl rfl rfl hg4620) rfl rfl (ex_move rfl rfl) ?_
              refine ops_ex rfl (guard_on rfl rfl rfl hg4620) rfl rfl (ex_len (d := kStr) (xs := t4548.drop ((1 : Int)).toNat) rfl rfl Tryz.underlying36 hr4595) ?_
              refine ops_ex rfl (guard_on rfl rfl rfl hg4620) rfl rfl (ex_gtr rfl rfl rfl) ?_
              refine ops_ex (v := .bool ((t4567 != 0) && (decide (0 < ((t4548.drop ((1 : Int)).toNat).length : Int))))) rfl (guard_none rfl) rfl rfl (ex_pand_t rfl rfl hg4620 rfl) ?_
              refine ops_nil ?_
              exact at_meet [(0, .string x0), (2, .pointer (some ⟨b4544, 0, none⟩)), (4, u4593), (5, .pointer (some ⟨b4569, 0, none⟩)), (43, .bool ((t4567 != 0) && (decide (0 < ((t4548.drop ((1 : Int)).toNat).length : Int)))))] ⟨rfl, HM⟩ (Sub.cons rfl (Sub.cons rfl (Sub.cons rfl (Sub.cons rfl (Sub.cons rfl Sub.nil)))))
            · skip
              refine ops_off rfl (guard_off rfl rfl rfl hg4620) rfl rfl ?_
              refine ops_off rfl (guard_off rfl rfl rfl hg4620) rfl rfl ?_
              refine ops_off rfl (guard_off rfl rfl rfl hg4620) rfl rfl ?_
              have hg4621 : ((t4567 != 0) && (decide (0 < ((t4548.drop ((1 : Int)).toNat).length : Int)))) = false := by simp only [hg4620, Bool.and_true, Bool.true_and, Bool.and_false, Bool.false_and, Bool.or_true, Bool.true_or, Bool.or_false, Bool.false_or, Bool.not_true, Bool.not_false, Bool.not_not]
              refine ops_ex (v := .bool ((t4567 != 0) && (decide (0 < ((t4548.drop ((1 : Int)).toNat).length : Int))))) rfl (guard_none rfl) rfl rfl (ex_pand_f rfl rfl hg4620) ?_
              refine ops_nil ?_
              exact at_meet [(0, .string x0), (2, .pointer (some ⟨b4544, 0, none⟩)), (4, u4593), (5, .pointer (some ⟨b4569, 0, none⟩)), (43, .bool ((t4567 != 0) && (decide (0 < ((t4548.drop ((1 : Int)).toNat).length : Int)))))] ⟨rfl, HM⟩ (Sub.cons rfl (Sub.cons rfl (Sub.cons rfl (Sub.cons rfl (Sub.cons rfl Sub.nil)))))
          · rintro _ w4622 ⟨rfl, HM⟩
            refine at_then ?_
            refine run_cond (b := ((t4567 != 0) && (decide (0 < ((t4548.drop ((1 : Int)).toNat).length : Int))))) rfl (fun hb4623 => ?_) (fun hb4623 => ?_)
            · replace ho4619 := cond_t hb4623 ho4619
              refine run_seq ?_
              obtain ⟨e4624, ho4619⟩ := chk_some ho4619
              obtain ⟨t4626, h4627, ho4619⟩ := bind_some ho4619
              refine run_region rfl ?_
              refine ops_ex rfl (guard_none rfl) rfl rfl (ex_move rfl rfl) ?_
              have hc4625 : CellsAt _ (sb u4593) (so u4593 + ((0 : Int)).toNat * 1) [(.string (gt (t4548.drop ((1 : Int)).toNat) (0 : Int)))] := rd_plain hr4595 e4624
              refine ops_ex rfl (guard_none rfl) rfl rfl (ex_indexAddr (d := kStr) rfl rfl rfl Tryz.underlying36 tsz9 hr4595 (idx_lo e4624) (idx_hi e4624)) ?_
              refine ops_ex rfl (guard_none rfl) rfl rfl (ex_load1 rfl rfl Tryz.underlying9 rfl ((HM.ato hwo hc4625) 0 _ rfl)) ?_
              refine ops_does rfl (guard_none rfl) rfl rfl (does_callk rfl callok24 rfl (impl_number.calls (x0 := (gt (t4548.drop ((1 : Int)).toNat) (0 : Int))) (HM.tabPo hwo htab) h4627)) ?_
              rintro _ w4628 ⟨rfl, hn⟩
              replace HM : Mem w4552 F4553 w4628 [box b4544 25 [.int .i64 0, .int .i64 0, .slice none 0 0, .slice none 0 0], box b4569 25 [.int .i64 t4567, .int .i64 0, .slice none 0 0, .slice none 0 0]] := HM.call hn
              refine ops_ex rfl (guard_none rfl) rfl rfl (ex_fieldAddr (off' := 1) rfl rfl Tryz.underlying25 rfl tsz2 rfl) ?_
              replace HM := HM.front 1 rfl rfl
              refine ops_doesS rfl (guard_none rfl) rfl (does_store (vs := [.int .i64 t4626]) (cs' := [.int .i64 t4567, .int .i64 t4626, .slice none 0 0, .slice none 0 0]) rfl rfl rfl rfl tsz2 (Ones.int Ones.nil) rfl rfl HM) ?_
              rintro w4629 HM
              refine ops_nil ?_
              refine at_then ?_
              obtain ⟨e4630, ho4619⟩ := chk_some ho4619
              refine run_region rfl ?_
              refine ops_ex rfl (guard_none rfl) rfl rfl (ex_move rfl rfl) ?_
              refine ops_exE rfl (guard_none rfl) rfl rfl (ex_cutL kStr rfl rfl rfl Tryz.underlying36 tsz9 hr4595 e4630) ?_
              rintro u4631 hr4633
              refine ops_ex rfl (guard_none rfl) rfl rfl (ex_assign rfl rfl) ?_
              refine ops_nil ?_
              replace HM := HM.front 1 rfl rfl
              exact at_mid (ρ' := [(0, .string x0), (2, .pointer (some ⟨b4544, 0, none⟩)), (4, u4631), (5, .pointer (some ⟨b4569, 0, none⟩))]) ⟨_, _, _, (Option.some.inj ho4619), rfl, hr4633, HM⟩ (Sub.cons rfl (Sub.cons rfl (Sub.cons rfl (Sub.cons rfl Sub.nil))))
            · replace ho4619 := cond_f hb4623 ho4619
              refine run_skip ?_
              exact at_mid (ρ' := [(0, .string x0), (2, .pointer (some ⟨b4544, 0, none⟩)), (4, u4593), (5, .pointer (some ⟨b4569, 0, none⟩))]) ⟨_, _, _, (Option.some.inj ho4619), rfl, hr4595, HM⟩ (Sub.cons rfl (Sub.cons rfl (Sub.cons rfl (Sub.cons rfl Sub.nil))))
        · rintro _ w4634 ⟨v4614, a4615, a4617, rfl, rfl, hr4616, HM⟩
          replace H := cur2_mk H
          refine run_seq ?_
          refine run_seq ?_
          refine run_meet (fun ρ_ w_ => ρ_ = [(0, .string x0), (2, .pointer (some ⟨b4544, 0, none⟩)), (4, v4614), (5, .pointer (some ⟨b4569, 0, none⟩)), (58, .bool ((decide ((a4615.length : Int) < 2)) || (decide (5 < (a4615.length : Int)))))] ∧ Mem w4552 F4553 w_ [box b4544 25 [.int .i64 0, .int .i64 0, .slice none 0 0, .slice none 0 0], box b4569 25 [.int .i64 t4567, .int .i64 a4617, .slice none 0 0, .slice none 0 0]]) ?_ ?_
          · skip
            refine run_region rfl ?_
            refine ops_ex rfl (guard_none rfl) rfl rfl (ex_move rfl rfl) ?_
            refine ops_ex rfl (guard_none rfl) rfl rfl (ex_len (d := kStr) (xs := a4615) rfl rfl Tryz.underlying36 hr4616) ?_
            refine ops_ex rfl (guard_none rfl) rfl rfl (ex_lss rfl rfl rfl) ?_
            refine ops_ex rfl (guard_none rfl) rfl rfl (ex_move rfl rfl) ?_
            refine bool_cases (decide ((a4615.length : Int) < 2)) (fun hg4636 => ?_) (fun hg4636 => ?_)
            · skip
              refine ops_off rfl (guard_off rfl rfl rfl hg4636) rfl rfl ?_
              refine ops_off rfl (guard_off rfl rfl rfl hg4636) rfl rfl ?_
              refine ops_off rfl (guard_off rfl rfl rfl hg4636) rfl rfl ?_
              have hg4637 : ((decide ((a4615.length : Int) < 2)) || (decide (5 < (a4615.length : Int)))) = true := by simp only [hg4636, Bool.and_true, Bool.true_and, Bool.and_false, Bool.false_and, Bool.or_true, Bool.true_or, Bool.or_false, Bool.false_or, Bool.not_true, Bool.not_false, Bool.not_not]
              refine ops_ex (v := .bool ((decide ((a4615.length : Int) < 2)) || (decide (5 < (a4615.length : Int))))) rfl (guard_none rfl) rfl rfl (ex_por_t rfl rfl hg4636) ?_
              refine ops_nil ?_
              exact at_meet [(0, .string x0), (2, .pointer (some ⟨b4544, 0, none⟩)), (4, v4614), (5, .pointer (some ⟨b4569, 0, none⟩)), (58, .bool ((decide ((a4615.length : Int) < 2)) || (decide (5 < (a4615.length : Int)))))] ⟨rfl, HM⟩ (Sub.cons rfl (Sub.cons rfl (Sub.cons rfl (Sub.cons rfl (Sub.cons rfl Sub.nil)))))
            · skip
              refine ops_ex rfl (guard_on rfl rfl rfl hg4636) rfl rfl (ex_move rfl rfl) ?_
              refine ops_ex rfl (guard_on rfl rfl rfl hg4636) rfl rfl (ex_len (d := kStr) (xs := a4615) rfl rfl Tryz.underlying36 hr4616) ?_
              refine ops_ex rfl (guard_on rfl rfl rfl hg4636) rfl rfl (ex_gtr rfl rfl rfl) ?_
              refine ops_ex (v := .bool ((decide ((a4615.length : Int) < 2)) || (decide (5 < (a4615.length : Int))))) rfl (guard_none rfl) rfl rfl (ex_por_f rfl rfl hg4636 rfl) ?_
              refine ops_nil ?_
              exact at_meet [(0, .string x0), (2, .pointer (some ⟨b4544, 0, none⟩)), (4, v4614), (5, .pointer (some ⟨b4569, 0, none⟩)), (58, .bool ((decide ((a4615.length : Int) < 2)) || (decide (5 < (a4615.length : Int)))))] ⟨rfl, HM⟩ (Sub.cons rfl (Sub.cons rfl (Sub.cons rfl (Sub.cons rfl (Sub.cons rfl Sub.nil)))))
          · rintro _ w4638 ⟨rfl, HM⟩
            refine at_then ?_
            refine run_cond (b := ((decide ((a4615.length : Int) < 2)) || (decide (5 < (a4615.length : Int))))) rfl (fun hb4639 => ?_) (fun hb4639 => ?_)
            · replace H := cond_t hb4639 H
              refine run_seq ?_
              refine run_region rfl ?_
              refine ops_ex rfl (guard_none rfl) rfl rfl (ex_build (cells := #[(.int .i64 0), (.int .i64 0), (.slice none 0 0), (.slice none 0 0)]) rfl rfl (by kernel_rfl)) ?_
              refine ops_doesS rfl (guard_none rfl) rfl (does_store (vs := [.int .i64 0, .int .i64 0, .slice none 0 0, .slice none 0 0]) (cs' := [.int .i64 0, .int .i64 0, .slice none 0 0, .slice none 0 0]) rfl rfl rfl rfl tsz25 (Ones.int (Ones.int (Ones.sl (Ones.sl Ones.nil)))) rfl rfl HM) ?_
              rintro w4640 HM
              refine ops_ex rfl (guard_none rfl) rfl rfl (ex_assign rfl rfl) ?_
              refine ops_nil ?_
              refine at_then ?_
              refine run_ret ?_
              refine at_then_ret ?_
              replace HM := hcl4558 _ _ HM
              replace HM := HM.empty kRef 60 none
              replace HM := HM.empty kOut 49 none
              replace HM := (HM.front 3 rfl rfl).drop
              replace HM := (HM.front 3 rfl rfl).drop
              replace HM := HM.front 1 rfl rfl
              replace HM := HM.front 2 rfl rfl
              have hcb0 := HM.box_at 0 rfl
              replace HM := (HM.front 0 rfl rfl).drop
              have hR := Option.some.inj H
              subst hR
              exact at_retN1 rfl rfl rfl Tryz.underlying25 rfl tsz25 rfl hcb0 ⟨_, rfl, _, _, rfl, HM⟩
            · replace H := cond_f hb4639 H
              refine run_skip ?_
              refine at_then ?_
              obtain ⟨o4698, ho4699, H⟩ := bind_some H
              refine run_mid (fun ρ_ w_ => ∃ v4695 : Value, ∃ a4696 : List Ref, a4696 = o4698 ∧ ρ_ = [(0, .string x0), (2, .pointer (some ⟨b4544, 0, none⟩)), (4, v4614), (5, .pointer (some ⟨b4569, 0, none⟩))] ∧ Mem w4552 F4553 w_ [box b4544 25 [.int .i64 0, .int .i64 0, .slice none 0 0, .slice none 0 0], box b4569 25 [.int .i64 t4567, .int .i64 a4617, v4695, .slice none 0 0], own kRef 60 v4695 a4696]) ?_ ?_
              · clear H
                refine run_seq ?_
                obtain ⟨e4700, ho4699⟩ := chk_some ho4699
                obtain ⟨t4702, h4703, ho4699⟩ := bind_some ho4699
                refine run_region rfl ?_
                refine ops_ex rfl (guard_none rfl) rfl rfl (ex_move rfl rfl) ?_
                have hc4701 : CellsAt _ (sb v4614) (so v4614 + ((0 : Int)).toNat * 1) [(.string (gt a4615 (0 : Int)))] := rd_plain hr4616 e4700
                refine ops_ex rfl (guard_none rfl) rfl rfl (ex_indexAddr (d := kStr) rfl rfl rfl Tryz.underlying36 tsz9 hr4616 (idx_lo e4700) (idx_hi e4700)) ?_
                refine ops_ex rfl (guard_none rfl) rfl rfl (ex_load1 rfl rfl Tryz.underlying9 rfl ((HM.ato hwo hc4701) 0 _ rfl)) ?_
                refine ops_does rfl (guard_none rfl) rfl rfl (does_callk rfl callok21 rfl (strings_Split.calls (x0 := (gt a4615 (0 : Int))) (x1 := (⟨#[43]⟩ : ByteArray)) (HM.tabPo hwo htab) h4703)) ?_
                rintro u4704 w4706 ⟨_, rfl, hn⟩
                replace HM : Mem w4552 F4553 w4706 [own kStr 9 u4704 t4702, box b4544 25 [.int .i64 0, .int .i64 0, .slice none 0 0, .slice none 0 0], box b4569 25 [.int .i64 t4567, .int .i64 a4617, .slice none 0 0, .slice none 0 0]] := HM.call hn
                refine ops_ex rfl (guard_none rfl) rfl rfl (ex_len (d := kStr) (xs := t4702) rfl rfl Tryz.underlying36 (HM.own_rd 0 rfl)) ?_
                refine ops_ex rfl (guard_none rfl) rfl rfl (ex_move rfl rfl) ?_
                refine ops_nil ?_
                refine at_then ?_
                refine run_block ?_
                replace HM := HM.empty kRef 60 none
                replace HM := HM.front 1 rfl rfl
                replace HM := HM.front 1 rfl rfl
                replace HM := HM.front 3 rfl rfl
                replace HM := HM.front 3 rfl rfl
                refine run_loop (fun k_ ρ_ w_ => ∃ v4721 : Value, ∃ a4722 : List Ref, ∃ a4724 : Int, impl_readTx.l0 t4702 k_ a4722 a4724 = some o4698 ∧ ρ_ = [(0, .string x0), (2, .pointer (some ⟨b4544, 0, none⟩)), (4, v4614), (5, .pointer (some ⟨b4569, 0, none⟩)), (63, u4704), (64, .int .i64 (t4702.length : Int)), (65, .int .i64 a4724)] ∧ Mem w4552 F4553 w_ [box b4544 25 [.int .i64 0, .int .i64 0, .slice none 0 0, .slice none 0 0], box b4569 25 [.int .i64 t4567, .int .i64 a4617, v4721, .slice none 0 0], own kRef 60 v4721 a4722, own kStr 9 u4704 t4702]) k (ρ1 := [(0, .string x0), (2, .pointer (some ⟨b4544, 0, none⟩)), (4, v4614), (5, .pointer (some ⟨b4569, 0, none⟩)), (63, u4704), (64, .int .i64 (t4702.length : Int)), (65, .int .i64 0)]) ⟨_, _, _, ho4699, rfl, HM⟩ (Sub.cons rfl (Sub.cons rfl (Sub.cons rfl (Sub.cons rfl (Sub.cons rfl (Sub.cons rfl (Sub.cons rfl Sub.nil))))))) ?_
                clear HM ho4699
                rintro k4740 _ w4741 ⟨v4721, a4722, a4724, ho4699, rfl, HM⟩
                obtain _ | k4740 := k4740
                · exact nomatch ((impl_readTx.l0_z t4702 a4722 a4724).symm.trans ho4699)
                replace ho4699 := (impl_readTx.l0_s t4702 k4740 a4722 a4724).symm.trans ho4699
                refine run_seq ?_
                refine run_region rfl ?_
                refine ops_ex rfl (guard_none rfl) rfl rfl (ex_lss rfl rfl rfl) ?_
                refine ops_nil ?_
                refine at_then ?_
                refine run_seq ?_
                refine run_cond (b := (decide (a4724 < (t4702.length : Int)))) rfl (fun hb4742 => ?_) (fun hb4742 => ?_)
                · replace ho4699 := cond_t hb4742 ho4699
                  refine run_skip ?_
                  refine at_then ?_
                  refine run_seq ?_
                  refine run_block ?_
                  refine run_seq ?_
                  obtain ⟨e4743, ho4699⟩ := chk_some ho4699
                  refine run_region rfl ?_
                  refine ops_ex rfl (guard_none rfl) rfl rfl (ex_indexAddr (d := kStr) rfl rfl rfl Tryz.underlying36 tsz9 (HM.own_rd 3 rfl) (idx_lo e4743) (idx_hi e4743)) ?_
                  refine ops_ex rfl (guard_none rfl) rfl rfl (ex_load1 rfl rfl Tryz.underlying9 rfl ((rd_plain (HM.own_rd 3 rfl) e4743) 0 _ rfl)) ?_
                  refine ops_ex rfl (guard_none rfl) rfl rfl (ex_assign rfl rfl) ?_
                  refine ops_nil ?_
                  refine at_then ?_
                  refine run_seq ?_
                  obtain ⟨t4744, h4745, ho4699⟩ := bind_some ho4699
                  refine run_region rfl ?_
                  refine ops_ex rfl (guard_none rfl) rfl rfl (ex_move rfl rfl) ?_
                  refine ops_does rfl (guard_none rfl) rfl rfl (does_callk rfl callok25 rfl (strings_Cut.calls (x0 := (gt t4702 a4724)) (x1 := (⟨#[58]⟩ : ByteArray)) (HM.tabPo hwo htab) h4745)) ?_
                  rintro _ w4746 ⟨rfl, hn⟩
                  replace HM : Mem w4552 F4553 w4746 [box b4544 25 [.int .i64 0, .int .i64 0, .slice none 0 0, .slice none 0 0], box b4569 25 [.int .i64 t4567, .int .i64 a4617, v4721, .slice none 0 0], own kRef 60 v4721 a4722, own kStr 9 u4704 t4702] := HM.call hn
                  refine ops_ex rfl (guard_none rfl) rfl rfl (ex_move rfl rfl) ?_
                  refine ops_ex rfl (guard_none rfl) rfl rfl (ex_extract rfl rfl rfl) ?_
                  refine ops_ex rfl (guard_none rfl) rfl rfl (ex_extract rfl rfl rfl) ?_
                  refine ops_ex rfl (guard_none rfl) rfl rfl (ex_extract rfl rfl rfl) ?_
                  refine ops_ex rfl (guard_none rfl) rfl rfl (ex_assign rfl rfl) ?_
                  refine ops_ex rfl (guard_none rfl) rfl rfl (ex_assign rfl rfl) ?_
                  refine ops_ex rfl (guard_none rfl) rfl rfl (ex_assign rfl rfl) ?_
                  refine ops_nil ?_
                  refine at_then ?_
                  obtain ⟨t4747, h4748, ho4699⟩ := bind_some ho4699
                  obtain ⟨t4749, h4750, ho4699⟩ := bind_some ho4699
                  obtain ⟨e4754, ho4699⟩ := chk_some ho4699
                  refine run_meet (fun ρ_ w_ => ∃ v4755 : Value, ρ_ = [(0, .string x0), (2, .pointer (some ⟨b4544, 0, none⟩)), (4, v4614), (5, .pointer (some ⟨b4569, 0, none⟩)), (63, u4704), (64, .int .i64 (t4702.length : Int)), (65, .int .i64 a4724)] ∧ Mem w4552 F4553 w_ [box b4544 25 [.int .i64 0, .int .i64 0, .slice none 0 0, .slice none 0 0], box b4569 25 [.int .i64 t4567, .int .i64 a4617, v4755, .slice none 0 0], own kRef 60 v4755 (a4722 ++ ([(⟨t4747, t4749⟩ : Ref)] : List Ref)), own kStr 9 u4704 t4702]) ?_ ?_
                  · skip
                    replace HM := HM.front 2 rfl rfl
                    replace HM := HM.front 2 rfl rfl
                    refine run_draw (fun w_ => Mem w4552 F4553 w_ [box b4544 25 [.int .i64 0, .int .i64 0, .slice none 0 0, .slice none 0 0], own kStr 9 u4704 t4702]) mixed rfl (l := #[false, false, false, false, false, false, false, false, false, false, false]) rfl ?_
                    replace HM := HM.grow (fr_drew _)
                    have hS := Mem.suf (M := [box b4569 25 [.int .i64 t4567, .int .i64 a4617, v4721, .slice none 0 0], own kRef 60 v4721 a4722]) HM
                    refine drw_take (i := 0) (l' := #[true, false, false, false, false, false, false, false, false, false, false]) rfl (guard_none rfl) rfl rfl (by kernel_rfl) (fun w_ hS_ => (ex_fieldAddr (off' := 2) rfl rfl Tryz.underlying25 rfl tsz22 rfl)) hS ?_
                    refine drw_take (i := 2) (l' := #[true, false, true, false, false, false, false, false, false, false, false]) rfl (guard_none rfl) rfl rfl (by kernel_rfl) (fun w_ hS_ => (ex_move rfl rfl)) hS ?_
                    refine drw_take (i := 4) (l' := #[true, false, true, false, true, false, false, false, false, false, false]) rfl (guard_none rfl) rfl rfl (by kernel_rfl) (fun w_ hS_ => (ex_move rfl rfl)) hS ?_
                    refine drw_any [1, 3] (by kernel_rfl) rfl (.cons ?_ (.cons ?_ .nil))
                    · skip
                      refine br_does (l' := #[true, true, true, false, true, false, false, false, false, false, false]) rfl (guard_none rfl) rfl rfl (by kernel_rfl) (does_ex' (ex_load1 rfl rfl Tryz.underlying22 rfl ((HM.box_at 0 rfl) 2 _ rfl))) ?_
                      rintro _ _ ⟨rfl, rfl⟩
                      refine ⟨hS, ?_⟩
                      refine drw_any [3] (by kernel_rfl) rfl (.cons ?_ .nil)
                      refine br_does (l' := #[true, true, true, true, true, false, false, false, false, false, false]) rfl (guard_none rfl) rfl rfl (by kernel_rfl) (does_callk rfl callok24 rfl (impl_number.calls (x0 := t4744.1) (HM.tabPo hwo htab) h4748)) ?_
                      rintro _ w4757 ⟨rfl, hn⟩
                      replace HM : Mem w4552 F4553 w4757 [box b4569 25 [.int .i64 t4567, .int .i64 a4617, v4721, .slice none 0 0], own kRef 60 v4721 a4722, box b4544 25 [.int .i64 0, .int .i64 0, .slice none 0 0, .slice none 0 0], own kStr 9 u4704 t4702] := HM.call hn
                      refine ⟨Mem.suf (M := [box b4569 25 [.int .i64 t4567, .int .i64 a4617, v4721, .slice none 0 0], own kRef 60 v4721 a4722]) HM, ?_⟩
                      have hS := Mem.suf (M := [box b4569 25 [.int .i64 t4567, .int .i64 a4617, v4721, .slice none 0 0], own kRef 60 v4721 a4722]) HM
                      refine drw_any [5] (by kernel_rfl) rfl (.cons ?_ .nil)
                      refine br_does (l' := #[true, true, true, true, true, true, false, false, false, false, false]) rfl (guard_none rfl) rfl rfl (by kernel_rfl) (does_callk rfl callok24 rfl (impl_number.calls (x0 := t4744.2.1) (HM.tabPo hwo htab) h4750)) ?_
                      rintro _ w4758 ⟨rfl, hn⟩
                      replace HM : Mem w4552 F4553 w4758 [box b4569 25 [.int .i64 t4567, .int .i64 a4617, v4721, .slice none 0 0], own kRef 60 v4721 a4722, box b4544 25 [.int .i64 0, .int .i64 0, .slice none 0 0, .slice none 0 0], own kStr 9 u4704 t4702] := HM.call hn
                      refine ⟨Mem.suf (M := [box b4569 25 [.int .i64 t4567, .int .i64 a4617, v4721, .slice none 0 0], own kRef 60 v4721 a4722]) HM, ?_⟩
                      have hS := Mem.suf (M := [box b4569 25 [.int .i64 t4567, .int .i64 a4617, v4721, .slice none 0 0], own kRef 60 v4721 a4722]) HM
                      refine drw_take (i := 6) (l' := #[true, true, true, true, true, true, true, false, false, false, false]) rfl (guard_none rfl) rfl rfl (by kernel_rfl) (fun w_ hS_ => (ex_build (cells := #[(.int .i64 t4747), (.int .i64 t4749)]) rfl rfl (by kernel_rfl))) hS ?_
                      refine drw_any [7] (by kernel_rfl) rfl (.cons ?_ .nil)
                      refine br_does (l' := #[true, true, true, true, true, true, true, true, false, false, false]) rfl (guard_none rfl) rfl rfl (by kernel_rfl) (does_lit (e := 60) (cs := [.int .i64 t4747, .int .i64 t4749]) (xs := ([(⟨t4747, t4749⟩ : Ref)] : List Ref)) kRef rfl rfl (fun _ => by kernel_rfl) rfl rfl (fun _ _ h => by have h' : _ = [] := h; subst h'; exact (Elems.cons (d := kRef) (x := (⟨t4747, t4749⟩ : Ref)) (f := []) ⟨rfl, rfl⟩ .nil)) HM.emp) ?_
                      rintro v4751 w4759 HM
                      refine ⟨Mem.suf (M := [own kRef 60 v4751 ([(⟨t4747, t4749⟩ : Ref)] : List Ref), box b4569 25 [.int .i64 t4567, .int .i64 a4617, v4721, .slice none 0 0], own kRef 60 v4721 a4722]) HM, ?_⟩
                      have hS := Mem.suf (M := [own kRef 60 v4751 ([(⟨t4747, t4749⟩ : Ref)] : List Ref), box b4569 25 [.int .i64 t4567, .int .i64 a4617, v4721, .slice none 0 0], own kRef 60 v4721 a4722]) HM
                      replace HM := HM.front 2 rfl rfl
                      refine drw_any [8] (by kernel_rfl) rfl (.cons ?_ .nil)
                      refine br_does (l' := #[true, true, true, true, true, true, true, true, true, false, false]) rfl (guard_none rfl) rfl rfl (by kernel_rfl) (does_appendR kRef flat_plain rfl rfl rfl Tryz.underlying22 tsz60 rfl tby60 tz60 rfl rfl (leB_le e4754) (HM.own_rd 1 rfl) HM) ?_
                      rintro v4755 w4760 HM
                      refine ⟨Mem.suf (M := [own kRef 60 v4755 (a4722 ++ ([(⟨t4747, t4749⟩ : Ref)] : List Ref)), own kRef 60 v4751 ([(⟨t4747, t4749⟩ : Ref)] : List Ref), box b4569 25 [.int .i64 t4567, .int .i64 a4617, v4721, .slice none 0 0]]) HM, ?_⟩
                      have hS := Mem.suf (M := [own kRef 60 v4755 (a4722 ++ ([(⟨t4747, t4749⟩ : Ref)] : List Ref)), own kRef 60 v4751 ([(⟨t4747, t4749⟩ : Ref)] : List Ref), box b4569 25 [.int .i64 t4567, .int .i64 a4617, v4721, .slice none 0 0]]) HM
                      refine drw_take (i := 9) (l' := #[true, true, true, true, true, true, true, true, true, true, false]) rfl (guard_none rfl) rfl rfl (by kernel_rfl) (fun w_ hS_ => (ex_fieldAddr (off' := 2) rfl rfl Tryz.underlying25 rfl tsz22 rfl)) hS ?_
                      replace HM := HM.front 2 rfl rfl
                      refine drw_any [10] (by kernel_rfl) rfl (.cons ?_ .nil)
                      refine br_doesS (l' := #[true, true, true, true, true, true, true, true, true, true, true]) rfl (guard_none rfl) rfl (by kernel_rfl) (does_store (vs := [v4755]) (cs' := [.int .i64 t4567, .int .i64 a4617, v4755, .slice none 0 0]) rfl rfl rfl (rd_cells (HM.own_rd 1 rfl)) tsz22 (Ones.rd (HM.own_rd 1 rfl) Ones.nil) rfl rfl HM) ?_
                      rintro w4761 HM
                      refine ⟨Mem.suf (M := [box b4569 25 [.int .i64 t4567, .int .i64 a4617, v4755, .slice none 0 0], own kRef 60 v4755 (a4722 ++ ([(⟨t4747, t4749⟩ : Ref)] : List Ref)), own kRef 60 v4751 ([(⟨t4747, t4749⟩ : Ref)] : List Ref)]) HM, ?_⟩
                      have hS := Mem.suf (M := [box b4569 25 [.int .i64 t4567, .int .i64 a4617, v4755, .slice none 0 0], own kRef 60 v4755 (a4722 ++ ([(⟨t4747, t4749⟩ : Ref)] : List Ref)), own kRef 60 v4751 ([(⟨t4747, t4749⟩ : Ref)] : List Ref)]) HM
                      refine drw_done (by kernel_rfl) ?_
                      replace HM := (HM.front 2 rfl rfl).drop
                      replace HM := HM.front 3 rfl rfl
                      replace HM := HM.front 2 rfl rfl
                      replace HM := HM.front 2 rfl rfl
                      replace HM := HM.front 3 rfl rfl
                      exact at_meet [(0, .string x0), (2, .pointer (some ⟨b4544, 0, none⟩)), (4, v4614), (5, .pointer (some ⟨b4569, 0, none⟩)), (63, u4704), (64, .int .i64 (t4702.length : Int)), (65, .int .i64 a4724)] ⟨_, rfl, HM⟩ (Sub.cons rfl (Sub.cons rfl (Sub.cons rfl (Sub.cons rfl (Sub.cons rfl (Sub.cons rfl (Sub.cons rfl Sub.nil)))))))
                    · skip
                      refine br_does (l' := #[true, false, true, true, true, false, false, false, false, false, false]) rfl (guard_none rfl) rfl rfl (by kernel_rfl) (does_callk rfl callok24 rfl (impl_number.calls (x0 := t4744.1) (HM.tabPo hwo htab) h4748)) ?_
                      rintro _ w4762 ⟨rfl, hn⟩
                      replace HM : Mem w4552 F4553 w4762 [box b4569 25 [.int .i64 t4567, .int .i64 a4617, v4721, .slice none 0 0], own kRef 60 v4721 a4722, box b4544 25 [.int .i64 0, .int .i64 0, .slice none 0 0, .slice none 0 0], own kStr 9 u4704 t4702] := HM.call hn
                      refine ⟨Mem.suf (M := [box b4569 25 [.int .i64 t4567, .int .i64 a4617, v4721, .slice none 0 0], own kRef 60 v4721 a4722]) HM, ?_⟩
                      have hS := Mem.suf (M := [box b4569 25 [.int .i64 t4567, .int .i64 a4617, v4721, .slice none 0 0], own kRef 60 v4721 a4722]) HM
                      refine drw_any [1, 5] (by kernel_rfl) rfl (.cons ?_ (.cons ?_ .nil))
                      · skip
                        refine br_does (l' := #[true, true, true, true, true, false, false, false, false, false, false]) rfl (guard_none rfl) rfl rfl (by kernel_rfl) (does_ex' (ex_load1 rfl rfl Tryz.underlying22 rfl ((HM.box_at 0 rfl) 2 _ rfl))) ?_
                        rintro _ _ ⟨rfl, rfl⟩
                        refine ⟨hS, ?_⟩
                        refine drw_any [5] (by kernel_rfl) rfl (.cons ?_ .nil)
                        refine br_does (l' := #[true, true, true, true, true, true, false, false, false, false, false]) rfl (guard_none rfl) rfl rfl (by kernel_rfl) (does_callk rfl callok24 rfl (impl_number.calls (x0 := t4744.2.1) (HM.tabPo hwo htab) h4750)) ?_
                        rintro _ w4763 ⟨rfl, hn⟩
                        replace HM : Mem w4552 F4553 w4763 [box b4569 25 [.int .i64 t4567, .int .i64 a4617, v4721, .slice none 0 0], own kRef 60 v4721 a4722, box b4544 25 [.int .i64 0, .int .i64 0, .slice none 0 0, .slice none 0 0], own kStr 9 u4704 t4702] := HM.call hn
                        refine ⟨Mem.suf (M := [box b4569 25 [.int .i64 t4567, .int .i64 a4617, v4721, .slice none 0 0], own kRef 60 v4721 a4722]) HM, ?_⟩
                        have hS := Mem.suf (M := [box b4569 25 [.int .i64 t4567, .int .i64 a4617, v4721, .slice none 0 0], own kRef 60 v4721 a4722]) HM
                        refine drw_take (i := 6) (l' := #[true, true, true, true, true, true, true, false, false, false, false]) rfl (guard_none rfl) rfl rfl (by kernel_rfl) (fun w_ hS_ => (ex_build (cells := #[(.int .i64 t4747), (.int .i64 t4749)]) rfl rfl (by kernel_rfl))) hS ?_
                        refine drw_any [7] (by kernel_rfl) rfl (.cons ?_ .nil)
                        refine br_does (l' := #[true, true, true, true, true, true, true, true, false, false, false]) rfl (guard_none rfl) rfl rfl (by kernel_rfl) (does_lit (e := 60) (cs := [.int .i64 t4747, .int .i64 t4749]) (xs := ([(⟨t4747, t4749⟩ : Ref)] : List Ref)) kRef rfl rfl (fun _ => by kernel_rfl) rfl rfl (fun _ _ h => by have h' : _ = [] := h; subst h'; exact (Elems.cons (d := kRef) (x := (⟨t4747, t4749⟩ : Ref)) (f := []) ⟨rfl, rfl⟩ .nil)) HM.emp) ?_
                        rintro v4751 w4764 HM
                        refine ⟨Mem.suf (M := [own kRef 60 v4751 ([(⟨t4747, t4749⟩ : Ref)] : List Ref), box b4569 25 [.int .i64 t4567, .int .i64 a4617, v4721, .slice none 0 0], own kRef 60 v4721 a4722]) HM, ?_⟩
                        have hS := Mem.suf (M := [own kRef 60 v4751 ([(⟨t4747, t4749⟩ : Ref)] : List Ref), box b4569 25 [.int .i64 t4567, .int .i64 a4617, v4721, .slice none 0 0], own kRef 60 v4721 a4722]) HM
                        replace HM := HM.front 2 rfl rfl
                        refine drw_any [8] (by kernel_rfl) rfl (.cons ?_ .nil)
                        refine br_does (l' := #[true, true, true, true, true, true, true, true, true, false, false]) rfl (guard_none rfl) rfl rfl (by kernel_rfl) (does_appendR kRef flat_plain rfl rfl rfl Tryz.underlying22 tsz60 rfl tby60 tz60 rfl rfl (leB_le e4754) (HM.own_rd 1 rfl) HM) ?_
                        rintro v4755 w4765 HM
                        refine ⟨Mem.suf (M := [own kRef 60 v4755 (a4722 ++ ([(⟨t4747, t4749⟩ : Ref)] : List Ref)), own kRef 60 v4751 ([(⟨t4747, t4749⟩ : Ref)] : List Ref), box b4569 25 [.int .i64 t4567, .int .i64 a4617, v4721, .slice none 0 0]]) HM, ?_⟩
                        have hS := Mem.suf (M := [own kRef 60 v4755 (a4722 ++ ([(⟨t4747, t4749⟩ : Ref)] : List Ref)), own kRef 60 v4751 ([(⟨t4747, t4749⟩ : Ref)] : List Ref), box b4569 25 [.int .i64 t4567, .int .i64 a4617, v4721, .slice none 0 0]]) HM
                        refine drw_take (i := 9) (l' := #[true, true, true, true, true, true, true, true, true, true, false]) rfl (guard_none rfl) rfl rfl (by kernel_rfl) (fun w_ hS_ => (ex_fieldAddr (off' := 2) rfl rfl Tryz.underlying25 rfl tsz22 rfl)) hS ?_
                        replace HM := HM.front 2 rfl rfl
                        refine drw_any [10] (by kernel_rfl) rfl (.cons ?_ .nil)
                        refine br_doesS (l' := #[true, true, true, true, true, true, true, true, true, true, true]) rfl (guard_none rfl) rfl (by kernel_rfl) (does_store (vs := [v4755]) (cs' := [.int .i64 t4567, .int .i64 a4617, v4755, .slice none 0 0]) rfl rfl rfl (rd_cells (HM.own_rd 1 rfl)) tsz22 (Ones.rd (HM.own_rd 1 rfl) Ones.nil) rfl rfl HM) ?_
                        rintro w4766 HM
                        refine ⟨Mem.suf (M := [box b4569 25 [.int .i64 t4567, .int .i64 a4617, v4755, .slice none 0 0], own kRef 60 v4755 (a4722 ++ ([(⟨t4747, t4749⟩ : Ref)] : List Ref)), own kRef 60 v4751 ([(⟨t4747, t4749⟩ : Ref)] : List Ref)]) HM, ?_⟩
                        have hS := Mem.suf (M := [box b4569 25 [.int .i64 t4567, .int .i64 a4617, v4755, .slice none 0 0], own kRef 60 v4755 (a4722 ++ ([(⟨t4747, t4749⟩ : Ref)] : List Ref)), own kRef 60 v4751 ([(⟨t4747, t4749⟩ : Ref)] : List Ref)]) HM
                        refine drw_done (by kernel_rfl) ?_
                        replace HM := (HM.front 2 rfl rfl).drop
                        replace HM := HM.front 3 rfl rfl
                        replace HM := HM.front 2 rfl rfl
                        replace HM := HM.front 2 rfl rfl
                        replace HM := HM.front 3 rfl rfl
                        exact at_meet [(0, .string x0), (2, .pointer (some ⟨b4544, 0, none⟩)), (4, v4614), (5, .pointer (some ⟨b4569, 0, none⟩)), (63, u4704), (64, .int .i64 (t4702.length : Int)), (65, .int .i64 a4724)] ⟨_, rfl, HM⟩ (Sub.cons rfl (Sub.cons rfl (Sub.cons rfl (Sub.cons rfl (Sub.cons rfl (Sub.cons rfl (Sub.cons rfl Sub.nil)))))))
                      · skip
                        refine br_does (l' := #[true, false, true, true, true, true, false, false, false, false, false]) rfl (guard_none rfl) rfl rfl (by kernel_rfl) (does_callk rfl callok24 rfl (impl_number.calls (x0 := t4744.2.1) (HM.tabPo hwo htab) h4750)) ?_
                        rintro _ w4767 ⟨rfl, hn⟩
                        replace HM : Mem w4552 F4553 w4767 [box b4569 25 [.int .i64 t4567, .int .i64 a4617, v4721, .slice none 0 0], own kRef 60 v4721 a4722, box b4544 25 [.int .i64 0, .int .i64 0, .slice none 0 0, .slice none 0 0], own kStr 9 u4704 t4702] := HM.call hn
                        refine ⟨Mem.suf (M := [box b4569 25 [.int .i64 t4567, .int .i64 a4617, v4721, .slice none 0 0], own kRef 60 v4721 a4722]) HM, ?_⟩
                        have hS := Mem.suf (M := [box b4569 25 [.int .i64 t4567, .int .i64 a4617, v4721, .slice none 0 0], own kRef 60 v4721 a4722]) HM
                        refine drw_take (i := 6) (l' := #[true, false, true, true, true, true, true, false, false, false, false]) rfl (guard_none rfl) rfl rfl (by kernel_rfl) (fun w_ hS_ => (ex_build (cells := #[(.int .i64 t4747), (.int .i64 t4749)]) rfl rfl (by kernel_rfl))) hS ?_
                        refine drw_any [1, 7] (by kernel_rfl) rfl (.cons ?_ (.cons ?_ .nil))
                        · skip
                          refine br_does (l' := #[true, true, true, true, true, true, true, false, false, false, false]) rfl (guard_none rfl) rfl rfl (by kernel_rfl) (does_ex' (ex_load1 rfl rfl Tryz.underlying22 rfl ((HM.box_at 0 rfl) 2 _ rfl))) ?_
                          rintro _ _ ⟨rfl, rfl⟩
                          refine ⟨hS, ?_⟩
                          refine drw_any [7] (by kernel_rfl) rfl (.cons ?_ .nil)
                          refine br_does (l' := #[true, true, true, true, true, true, true, true, false, false, false]) rfl (guard_none rfl) rfl rfl (by kernel_rfl) (does_lit (e := 60) (cs := [.int .i64 t4747, .int .i64 t4749]) (xs := ([(⟨t4747, t4749⟩ : Ref)] : List Ref)) kRef rfl rfl (fun _ => by kernel_rfl) rfl rfl (fun _ _ h => by have h' : _ = [] := h; subst h'; exact (Elems.cons (d := kRef) (x := (⟨t4747, t4749⟩ : Ref)) (f := []) ⟨rfl, rfl⟩ .nil)) HM.emp) ?_
                          rintro v4751 w4768 HM
                          refine ⟨Mem.suf (M := [own kRef 60 v4751 ([(⟨t4747, t4749⟩ : Ref)] : List Ref), box b4569 25 [.int .i64 t4567, .int .i64 a4617, v4721, .slice none 0 0], own kRef 60 v4721 a4722]) HM, ?_⟩
                          have hS := Mem.suf (M := [own kRef 60 v4751 ([(⟨t4747, t4749⟩ : Ref)] : List Ref), box b4569 25 [.int .i64 t4567, .int .i64 a4617, v4721, .slice none 0 0], own kRef 60 v4721 a4722]) HM
                          replace HM := HM.front 2 rfl rfl
                          refine drw_any [8] (by kernel_rfl) rfl (.cons ?_ .nil)
                          refine br_does (l' := #[true, true, true, true, true, true, true, true, true, false, false]) rfl (guard_none rfl) rfl rfl (by kernel_rfl) (does_appendR kRef flat_plain rfl rfl rfl Tryz.underlying22 tsz60 rfl tby60 tz60 rfl rfl (leB_le e4754) (HM.own_rd 1 rfl) HM) ?_
                          rintro v4755 w4769 HM
                          refine ⟨Mem.suf (M := [own kRef 60 v4755 (a4722 ++ ([(⟨t4747, t4749⟩ : Ref)] : List Ref)), own kRef 60 v4751 ([(⟨t4747, t4749⟩ : Ref)] : List Ref), box b4569 25 [.int .i64 t4567, .int .i64 a4617, v4721, .slice none 0 0]]) HM, ?_⟩
                          have hS := Mem.suf (M := [own kRef 60 v4755 (a4722 ++ ([(⟨t4747, t4749⟩ : Ref)] : List Ref)), own kRef 60 v4751 ([(⟨t4747, t4749⟩ : Ref)] : List Ref), box b4569 25 [.int .i64 t4567, .int .i64 a4617, v4721, .slice none 0 0]]) HM
                          refine drw_take (i := 9) (l' := #[true, true, true, true, true, true, true, true, true, true, false]) rfl (guard_none rfl) rfl rfl (by kernel_rfl) (fun w_ hS_ => (ex_fieldAddr (off' := 2) rfl rfl Tryz.underlying25 rfl tsz22 rfl)) hS ?_
                          replace HM := HM.front 2 rfl rfl
                          refine drw_any [10] (by kernel_rfl) rfl (.cons ?_ .nil)
                          refine br_doesS (l' := #[true, true, true, true, true, true, true, true, true, true, true]) rfl (guard_none rfl) rfl (by kernel_rfl) (does_store (vs := [v4755]) (cs' := [.int .i64 t4567, .int .i64 a4617, v4755, .slice none 0 0]) rfl rfl rfl (rd_cells (HM.own_rd 1 rfl)) tsz22 (Ones.rd (HM.own_rd 1 rfl) Ones.nil) rfl rfl HM) ?_
                          rintro w4770 HM
                          refine ⟨Mem.suf (M := [box b4569 25 [.int .i64 t4567, .int .i64 a4617, v4755, .slice none 0 0], own kRef 60 v4755 (a4722 ++ ([(⟨t4747, t4749⟩ : Ref)] : List Ref)), own kRef 60 v4751 ([(⟨t4747, t4749⟩ : Ref)] : List Ref)]) HM, ?_⟩
                          have hS := Mem.suf (M := [box b4569 25 [.int .i64 t4567, .int .i64 a4617, v4755, .slice none 0 0], own kRef 60 v4755 (a4722 ++ ([(⟨t4747, t4749⟩ : Ref)] : List Ref)), own kRef 60 v4751 ([(⟨t4747, t4749⟩ : Ref)] : List Ref)]) HM
                          refine drw_done (by kernel_rfl) ?_
                          replace HM := (HM.front 2 rfl rfl).drop
                          replace HM := HM.front 3 rfl rfl
                          replace HM := HM.front 2 rfl rfl
                          replace HM := HM.front 2 rfl rfl
                          replace HM := HM.front 3 rfl rfl
                          exact at_meet [(0, .string x0), (2, .pointer (some ⟨b4544, 0, none⟩)), (4, v4614), (5, .pointer (some ⟨b4569, 0, none⟩)), (63, u4704), (64, .int .i64 (t4702.length : Int)), (65, .int .i64 a4724)] ⟨_, rfl, HM⟩ (Sub.cons rfl (Sub.cons rfl (Sub.cons rfl (Sub.cons rfl (Sub.cons rfl (Sub.cons rfl (Sub.cons rfl Sub.nil)))))))
                        · skip
                          refine br_does (l' := #[true, false, true, true, true, true, true, true, false, false, false]) rfl (guard_none rfl) rfl rfl (by kernel_rfl) (does_lit (e := 60) (cs := [.int .i64 t4747, .int .i64 t4749]) (xs := ([(⟨t4747, t4749⟩ : Ref)] : List Ref)) kRef rfl rfl (fun _ => by kernel_rfl) rfl rfl (fun _ _ h => by have h' : _ = [] := h; subst h'; exact (Elems.cons (d := kRef) (x := (⟨t4747, t4749⟩ : Ref)) (f := []) ⟨rfl, rfl⟩ .nil)) HM.emp) ?_
                          rintro v4751 w4771 HM
                          refine ⟨Mem.suf (M := [own kRef 60 v4751 ([(⟨t4747, t4749⟩ : Ref)] : List Ref), box b4569 25 [.int .i64 t4567, .int .i64 a4617, v4721, .slice none 0 0], own kRef 60 v4721 a4722]) HM, ?_⟩
                          have hS := Mem.suf (M := [own kRef 60 v4751 ([(⟨t4747, t4749⟩ : Ref)] : List Ref), box b4569 25 [.int .i64 t4567, .int .i64 a4617, v4721, .slice none 0 0], own kRef 60 v4721 a4722]) HM
                          refine drw_any [1] (by kernel_rfl) rfl (.cons ?_ .nil)
                          refine br_does (l' := #[true, true, true, true, true, true, true, true, false, false, false]) rfl (guard_none rfl) rfl rfl (by kernel_rfl) (does_ex' (ex_load1 rfl rfl Tryz.underlying22 rfl ((HM.box_at 1 rfl) 2 _ rfl))) ?_
                          rintro _ _ ⟨rfl, rfl⟩
                          refine ⟨hS, ?_⟩
                          replace HM := HM.front 2 rfl rfl
                          refine drw_any [8] (by kernel_rfl) rfl (.cons ?_ .nil)
                          refine br_does (l' := #[true, true, true, true, true, true, true, true, true, false, false]) rfl (guard_none rfl) rfl rfl (by kernel_rfl) (does_appendR kRef flat_plain rfl rfl rfl Tryz.underlying22 tsz60 rfl tby60 tz60 rfl rfl (leB_le e4754) (HM.own_rd 1 rfl) HM) ?_
                          rintro v4755 w4772 HM
                          refine ⟨Mem.suf (M := [own kRef 60 v4755 (a4722 ++ ([(⟨t4747, t4749⟩ : Ref)] : List Ref)), own kRef 60 v4751 ([(⟨t4747, t4749⟩ : Ref)] : List Ref), box b4569 25 [.int .i64 t4567, .int .i64 a4617, v4721, .slice none 0 0]]) HM, ?_⟩
                          have hS := Mem.suf (M := [own kRef 60 v4755 (a4722 ++ ([(⟨t4747, t4749⟩ : Ref)] : List Ref)), own kRef 60 v4751 ([(⟨t4747, t4749⟩ : Ref)] : List Ref), box b4569 25 [.int .i64 t4567, .int .i64 a4617, v4721, .slice none 0 0]]) HM
                          refine drw_take (i := 9) (l' := #[true, true, true, true, true, true, true, true, true, true, false]) rfl (guard_none rfl) rfl rfl (by kernel_rfl) (fun w_ hS_ => (ex_fieldAddr (off' := 2) rfl rfl Tryz.underlying25 rfl tsz22 rfl)) hS ?_
                          replace HM := HM.front 2 rfl rfl
                          refine drw_any [10] (by kernel_rfl) rfl (.cons ?_ .nil)
                          refine br_doesS (l' := #[true, true, true, true, true, true, true, true, true, true, true]) rfl (guard_none rfl) rfl (by kernel_rfl) (does_store (vs := [v4755]) (cs' := [.int .i64 t4567, .int .i64 a4617, v4755, .slice none 0 0]) rfl rfl rfl (rd_cells (HM.own_rd 1 rfl)) tsz22 (Ones.rd (HM.own_rd 1 rfl) Ones.nil) rfl rfl HM) ?_
                          rintro w4773 HM
                          refine ⟨Mem.suf (M := [box b4569 25 [.int .i64 t4567, .int .i64 a4617, v4755, .slice none 0 0], own kRef 60 v4755 (a4722 ++ ([(⟨t4747, t4749⟩ : Ref)] : List Ref)), own kRef 60 v4751 ([(⟨t4747, t4749⟩ : Ref)] : List Ref)]) HM, ?_⟩
                          have hS := Mem.suf (M := [box b4569 25 [.int .i64 t4567, .int .i64 a4617, v4755, .slice none 0 0], own kRef 60 v4755 (a4722 ++ ([(⟨t4747, t4749⟩ : Ref)] : List Ref)), own kRef 60 v4751 ([(⟨t4747, t4749⟩ : Ref)] : List Ref)]) HM
                          refine drw_done (by kernel_rfl) ?_
                          replace HM := (HM.front 2 rfl rfl).drop
                          replace HM := HM.front 3 rfl rfl
                          replace HM := HM.front 2 rfl rfl
                          replace HM := HM.front 2 rfl rfl
                          replace HM := HM.front 3 rfl rfl
                          exact at_meet [(0, .string x0), (2, .pointer (some ⟨b4544, 0, none⟩)), (4, v4614), (5, .pointer (some ⟨b4569, 0, none⟩)), (63, u4704), (64, .int .i64 (t4702.length : Int)), (65, .int .i64 a4724)] ⟨_, rfl, HM⟩ (Sub.cons rfl (Sub.cons rfl (Sub.cons rfl (Sub.cons rfl (Sub.cons rfl (Sub.cons rfl (Sub.cons rfl Sub.nil)))))))
                  · rintro _ w4774 ⟨v4755, rfl, HM⟩
                    refine at_block ?_
                    refine at_then ?_
                    refine run_region rfl ?_
                    refine ops_ex rfl (guard_none rfl) rfl rfl (ex_add rfl rfl rfl) ?_
                    refine ops_ex rfl (guard_none rfl) rfl rfl (ex_move rfl rfl) ?_
                    refine ops_nil ?_
                    exact at_again k4740 (ρ1 := [(0, .string x0), (2, .pointer (some ⟨b4544, 0, none⟩)), (4, v4614), (5, .pointer (some ⟨b4569, 0, none⟩)), (63, u4704), (64, .int .i64 (t4702.length : Int)), (65, .int .i64 (wrap64 (a4724 + 1)))]) (Nat.lt_succ_self _) ⟨_, _, _, ho4699, rfl, HM⟩ (Sub.cons rfl (Sub.cons rfl (Sub.cons rfl (Sub.cons rfl (Sub.cons rfl (Sub.cons rfl (Sub.cons rfl Sub.nil)))))))
                · replace ho4699 := cond_f hb4742 ho4699
                  refine run_exit ?_
                  refine at_then_exit ?_
                  refine at_then_exit ?_
                  refine at_block_exit ?_
                  replace HM := (HM.front 3 rfl rfl).drop
                  exact at_mid (ρ' := [(0, .string x0), (2, .pointer (some ⟨b4544, 0, none⟩)), (4, v4614), (5, .pointer (some ⟨b4569, 0, none⟩))]) ⟨_, _, (Option.some.inj ho4699), rfl, HM⟩ (Sub.cons rfl (Sub.cons rfl (Sub.cons rfl (Sub.cons rfl Sub.nil))))
              · rintro _ w4775 ⟨v4695, a4696, rfl, rfl, HM⟩
                obtain ⟨o4841, ho4842, H⟩ := bind_some H
                refine run_mid (fun ρ_ w_ => ∃ v4838 : Value, ∃ a4839 : List Out, Sum.inr a4839 = o4841 ∧ ρ_ = [(0, .string x0), (2, .pointer (some ⟨b4544, 0, none⟩)), (5, .pointer (some ⟨b4569, 0, none⟩))] ∧ Mem w4552 F4553 w_ [box b4544 25 [.int .i64 0, .int .i64 0, .slice none 0 0, .slice none 0 0], box b4569 25 [.int .i64 t4567, .int .i64 a4617, v4695, v4838], own kRef 60 v4695 a4696, own kOut 49 v4838 a4839]) ?_ ?_
                · skip
                  refine run_seq ?_
                  obtain ⟨e4843, ho4842⟩ := chk_some ho4842
                  refine run_region rfl ?_
                  refine ops_ex rfl (guard_none rfl) rfl rfl (ex_move rfl rfl) ?_
                  refine ops_exE rfl (guard_none rfl) rfl rfl (ex_cutL kStr rfl rfl rfl Tryz.underlying36 tsz9 hr4616 e4843) ?_
                  rintro u4844 hr4846
                  refine ops_ex rfl (guard_none rfl) rfl rfl (ex_len (d := kStr) (xs := a4615.drop ((1 : Int)).toNat) rfl rfl Tryz.underlying36 hr4846) ?_
                  refine ops_ex rfl (guard_none rfl) rfl rfl (ex_move rfl rfl) ?_
                  refine ops_nil ?_
                  refine at_then ?_
                  refine run_block ?_
                  replace HM := HM.empty kOut 49 none
                  replace HM := HM.front 3 rfl rfl
                  replace HM := HM.front 3 rfl rfl
                  replace HM := HM.front 3 rfl rfl
                  refine run_loop (fun k_ ρ_ w_ => ∃ v4865 : Value, ∃ a4866 : List Out, ∃ a4868 : Int, impl_readTx.l1 a4615 k_ a4866 a4868 = some o4841 ∧ ρ_ = [(0, .string x0), (2, .pointer (some ⟨b4544, 0, none⟩)), (5, .pointer (some ⟨b4569, 0, none⟩)), (87, u4844), (88, .int .i64 ((a4615.drop ((1 : Int)).toNat).length : Int)), (89, .int .i64 a4868)] ∧ Mem w4552 F4553 w_ [box b4544 25 [.int .i64 0, .int .i64 0, .slice none 0 0, .slice none 0 0], box b4569 25 [.int .i64 t4567, .int .i64 a4617, v4695, v4865], own kRef 60 v4695 a4696, own kOut 49 v4865 a4866]) k (ρ1 := [(0, .string x0), (2, .pointer (some ⟨b4544, 0, none⟩)), (5, .pointer (some ⟨b4569, 0, none⟩)), (87, u4844), (88, .int .i64 ((a4615.drop ((1 : Int)).toNat).length : Int)), (89, .int .i64 0)]) ⟨_, _, _, ho4842, rfl, HM⟩ (Sub.cons rfl (Sub.cons rfl (Sub.cons rfl (Sub.cons rfl (Sub.cons rfl (Sub.cons rfl Sub.nil)))))) ?_
                  clear HM ho4842
                  rintro k4888 _ w4889 ⟨v4865, a4866, a4868, ho4842, rfl, HM⟩
                  obtain _ | k4888 := k4888
                  · exact nomatch ((impl_readTx.l1_z a4615 a4866 a4868).symm.trans ho4842)
                  replace ho4842 := (impl_readTx.l1_s a4615 k4888 a4866 a4868).symm.trans ho4842
                  refine run_seq ?_
                  refine run_region rfl ?_
                  refine ops_ex rfl (guard_none rfl) rfl rfl (ex_lss rfl rfl rfl) ?_
                  refine ops_nil ?_
                  refine at_then ?_
                  refine run_seq ?_
                  refine run_cond (b := (decide (a4868 < ((a4615.drop ((1 : Int)).toNat).length : Int)))) rfl (fun hb4890 => ?_) (fun hb4890 => ?_)
                  · replace ho4842 := cond_t hb4890 ho4842
                    refine run_skip ?_
                    refine at_then ?_
                    refine run_seq ?_
                    refine run_block ?_
                    refine run_seq ?_
                    obtain ⟨e4891, ho4842⟩ := chk_some ho4842
                    refine run_region rfl ?_
                    have hc4892 : CellsAt _ (sb u4844) (so u4844 + (a4868).toNat * 1) [(.string (gt (a4615.drop ((1 : Int)).toNat) a4868))] := rd_plain hr4846 e4891
                    refine ops_ex rfl (guard_none rfl) rfl rfl (ex_indexAddr (d := kStr) rfl rfl rfl Tryz.underlying36 tsz9 hr4846 (idx_lo e4891) (idx_hi e4891)) ?_
                    refine ops_ex rfl (guard_none rfl) rfl rfl (ex_load1 rfl rfl Tryz.underlying9 rfl ((HM.ato hwo hc4892) 0 _ rfl)) ?_
                    refine ops_ex rfl (guard_none rfl) rfl rfl (ex_assign rfl rfl) ?_
                    refine ops_nil ?_
                    refine at_then ?_
                    refine run_seq ?_
                    obtain ⟨t4893, h4894, ho4842⟩ := bind_some ho4842
                    refine run_region rfl ?_
                    refine ops_ex rfl (guard_none rfl) rfl rfl (ex_move rfl rfl) ?_
                    refine ops_does rfl (guard_none rfl) rfl rfl (does_callk rfl callok26 rfl (impl_readOut.calls (x0 := (gt (a4615.drop ((1 : Int)).toNat) a4868)) (HM.tabPo hwo htab) h4894)) ?_
                    rintro _ w4900 ⟨u4895, rfl, hn⟩
                    replace HM : Mem w4552 F4553 w4900 [own kInt 2 u4895 t4893.1.fRule.fKeys, box b4544 25 [.int .i64 0, .int .i64 0, .slice none 0 0, .slice none 0 0], box b4569 25 [.int .i64 t4567, .int .i64 a4617, v4695, v4865], own kRef 60 v4695 a4696, own kOut 49 v4865 a4866] := HM.call hn
                    refine ops_ex rfl (guard_none rfl) rfl rfl (ex_move rfl rfl) ?_
                    refine ops_ex rfl (guard_none rfl) rfl rfl (ex_extract rfl rfl rfl) ?_
                    refine ops_ex rfl (guard_none rfl) rfl rfl (ex_extract rfl rfl rfl) ?_
                    refine ops_does rfl (guard_none rfl) rfl rfl (does_alloc (cs := [.int .i64 0, .slice none 0 0, .int .i64 0, .int .i64 0]) rfl tz49 rfl HM) ?_
                    rintro _ w4901 ⟨b4897, rfl, HM⟩
                    refine ops_doesS rfl (guard_none rfl) rfl (does_store (vs := [.int .i64 t4893.1.fValue, u4895, .int .i64 t4893.1.fRule.fNeed, .int .i64 t4893.1.fRule.fAfter]) (cs' := [.int .i64 t4893.1.fValue, u4895, .int .i64 t4893.1.fRule.fNeed, .int .i64 t4893.1.fRule.fAfter]) rfl rfl rfl rfl tsz49 (Ones.int (Ones.rd (HM.own_rd 1 rfl) (Ones.int (Ones.int Ones.nil)))) rfl rfl HM) ?_
                    rintro w4902 HM
                    refine ops_ex rfl (guard_none rfl) rfl rfl (ex_assign rfl rfl) ?_
                    refine ops_nil ?_
                    refine at_then ?_
                    refine run_seq ?_
                    refine run_seq ?_
                    refine run_region rfl ?_
                    refine ops_ex rfl (guard_none rfl) rfl rfl (ex_move rfl rfl) ?_
                    refine ops_ex rfl (guard_none rfl) rfl rfl (ex_not rfl rfl) ?_
                    refine ops_nil ?_
                    refine at_then ?_
                    refine run_cond (b := !t4893.2) rfl (fun hb4904 => ?_) (fun hb4904 => ?_)
                    · replace ho4842 := cond_t hb4904 ho4842
                      refine run_seq ?_
                      refine run_region rfl ?_
                      refine ops_ex rfl (guard_none rfl) rfl rfl (ex_build (cells := #[(.int .i64 0), (.int .i64 0), (.slice none 0 0), (.slice none 0 0)]) rfl rfl (by kernel_rfl)) ?_
                      replace HM := HM.front 2 rfl rfl
                      refine ops_doesS rfl (guard_none rfl) rfl (does_store (vs := [.int .i64 0, .int .i64 0, .slice none 0 0, .slice none 0 0]) (cs' := [.int .i64 0, .int .i64 0, .slice none 0 0, .slice none 0 0]) rfl rfl rfl rfl tsz25 (Ones.int (Ones.int (Ones.sl (Ones.sl Ones.nil)))) rfl rfl HM) ?_
                      rintro w4905 HM
                      refine ops_ex rfl (guard_none rfl) rfl rfl (ex_assign rfl rfl) ?_
                      refine ops_nil ?_
                      refine at_then ?_
                      refine run_ret ?_
                      refine at_then_ret ?_
                      refine at_block_ret ?_
                      refine at_then_ret ?_
                      refine at_then_ret ?_
                      refine at_block_ret ?_
                      refine at_then_ret ?_
                      replace HM := hcl4558 _ _ HM
                      replace HM := HM.empty kRef 60 none
                      replace HM := HM.empty kOut 49 none
                      replace HM := (HM.front 3 rfl rfl).drop
                      replace HM := (HM.front 3 rfl rfl).drop
                      replace HM := (HM.front 3 rfl rfl).drop
                      replace HM := (HM.front 3 rfl rfl).drop
                      replace HM := (HM.front 3 rfl rfl).drop
                      replace HM := (HM.front 3 rfl rfl).drop
                      replace HM := HM.front 1 rfl rfl
                      replace HM := HM.front 2 rfl rfl
                      have hcb0 := HM.box_at 0 rfl
                      replace HM := (HM.front 0 rfl rfl).drop
                      have hR := Option.some.inj ho4842
                      subst hR
                      have hT := thn_inl H
                      have hR := Option.some.inj hT
                      subst hR
                      exact at_retN1 rfl rfl rfl Tryz.underlying25 rfl tsz25 rfl hcb0 ⟨_, rfl, _, _, rfl, HM⟩
                    · replace ho4842 := cond_f hb4904 ho4842
                      refine run_skip ?_
                      refine at_then ?_
                      obtain ⟨e4911, ho4842⟩ := chk_some ho4842
                      refine run_region rfl ?_
                      refine ops_ex rfl (guard_none rfl) rfl rfl (ex_fieldAddr (off' := 3) rfl rfl Tryz.underlying25 rfl tsz23 rfl) ?_
                      refine ops_ex rfl (guard_none rfl) rfl rfl (ex_load1 rfl rfl Tryz.underlying23 rfl ((HM.box_at 3 rfl) 3 _ rfl)) ?_
                      refine ops_ex rfl (guard_none rfl) rfl rfl (ex_loadN (cs := [(.int .i64 t4893.1.fValue), u4895, (.int .i64 t4893.1.fRule.fNeed), (.int .i64 t4893.1.fRule.fAfter)]) rfl rfl Tryz.underlying49 rfl tsz49 rfl ((HM.box_at 0 rfl).sub 0 4 rfl)) ?_
                      replace HM := HM.front 1 rfl rfl
                      refine ops_does rfl (guard_none rfl) rfl rfl (does_lit (e := 49) (cs := [(.int .i64 t4893.1.fValue), u4895, (.int .i64 t4893.1.fRule.fNeed), (.int .i64 t4893.1.fRule.fAfter)]) (xs := ([(⟨t4893.1.fValue, (⟨t4893.1.fRule.fKeys, t4893.1.fRule.fNeed, t4893.1.fRule.fAfter⟩ : Rule)⟩ : Out)] : List Out)) kOut rfl rfl (fun _ => by kernel_rfl) rfl rfl (fun _ _ h => by have := Elems.cons (d := kOut) (x := (⟨t4893.1.fValue, (⟨t4893.1.fRule.fKeys, t4893.1.fRule.fNeed, t4893.1.fRule.fAfter⟩ : Rule)⟩ : Out)) ⟨_, rfl, h⟩ .nil; rw [List.append_nil, List.append_nil] at this; exact this) HM) ?_
                      rintro v4908 w4914 HM
                      replace HM := HM.front 5 rfl rfl
                      refine ops_does rfl (guard_none rfl) rfl rfl (does_append kOut rfl rfl rfl Tryz.underlying23 tsz49 rfl tby49 tz49 rfl rfl (leB_le e4911) HM) ?_
                      rintro v4912 w4915 HM
                      refine ops_ex rfl (guard_none rfl) rfl rfl (ex_fieldAddr (off' := 3) rfl rfl Tryz.underlying25 rfl tsz23 rfl) ?_
                      replace HM := HM.front 3 rfl rfl
                      refine ops_doesS rfl (guard_none rfl) rfl (does_store (vs := [v4912]) (cs' := [.int .i64 t4567, .int .i64 a4617, v4695, v4912]) rfl rfl rfl (rd_cells (HM.own_rd 1 rfl)) tsz23 (Ones.rd (HM.own_rd 1 rfl) Ones.nil) rfl rfl HM) ?_
                      rintro w4916 HM
                      refine ops_nil ?_
                      refine at_block ?_
                      refine at_then ?_
                      refine run_region rfl ?_
                      refine ops_ex rfl (guard_none rfl) rfl rfl (ex_add rfl rfl rfl) ?_
                      refine ops_ex rfl (guard_none rfl) rfl rfl (ex_move rfl rfl) ?_
                      refine ops_nil ?_
                      replace HM := (HM.front 2 rfl rfl).drop
                      replace HM := HM.front 1 rfl rfl
                      replace HM := HM.front 3 rfl rfl
                      replace HM := HM.front 2 rfl rfl
                      replace HM := HM.front 3 rfl rfl
                      exact at_again k4888 (ρ1 := [(0, .string x0), (2, .pointer (some ⟨b4544, 0, none⟩)), (5, .pointer (some ⟨b4569, 0, none⟩)), (87, u4844), (88, .int .i64 ((a4615.drop ((1 : Int)).toNat).length : Int)), (89, .int .i64 (wrap64 (a4868 + 1)))]) (Nat.lt_succ_self _) ⟨_, _, _, ho4842, rfl, HM⟩ (Sub.cons rfl (Sub.cons rfl (Sub.cons rfl (Sub.cons rfl (Sub.cons rfl (Sub.cons rfl Sub.nil))))))
                  · replace ho4842 := cond_f hb4890 ho4842
                    refine run_exit ?_
                    refine at_then_exit ?_
                    refine at_then_exit ?_
                    refine at_block_exit ?_
                    exact at_mid (ρ' := [(0, .string x0), (2, .pointer (some ⟨b4544, 0, none⟩)), (5, .pointer (some ⟨b4569, 0, none⟩))]) ⟨_, _, (Option.some.inj ho4842), rfl, HM⟩ (Sub.cons rfl (Sub.cons rfl (Sub.cons rfl Sub.nil)))
                · rintro _ w4917 ⟨v4838, a4839, rfl, rfl, HM⟩
                  replace H := (thn_inr H)
                  refine run_seq ?_
                  refine run_seq ?_
                  obtain ⟨t4921, h4922, H⟩ := bind_some H
                  refine run_region rfl ?_
                  refine ops_ex rfl (guard_none rfl) rfl rfl (ex_loadN (cs := [(.int .i64 t4567), (.int .i64 a4617), v4695, v4838]) rfl rfl Tryz.underlying25 rfl tsz25 rfl ((HM.box_at 1 rfl).sub 0 4 rfl)) ?_
                  refine ops_does rfl (guard_none rfl) rfl rfl (does_callk rfl callok27 rfl (impl_TxFault.calls (x0 := (⟨t4567, a4617, a4696, a4839⟩ : Tx)) (HM.own_rd 2 rfl) (HM.own_rd 3 rfl) h4922)) ?_
                  rintro _ w4923 ⟨rfl, hn⟩
                  replace HM : Mem w4552 F4553 w4923 [box b4544 25 [.int .i64 0, .int .i64 0, .slice none 0 0, .slice none 0 0], box b4569 25 [.int .i64 t4567, .int .i64 a4617, v4695, v4838], own kRef 60 v4695 a4696, own kOut 49 v4838 a4839] := HM.call hn
                  refine ops_ex rfl (guard_none rfl) rfl rfl (ex_neq rfl rfl rfl) ?_
                  refine ops_nil ?_
                  refine at_then ?_
                  refine run_cond (b := (t4921 != 0)) rfl (fun hb4924 => ?_) (fun hb4924 => ?_)
                  · replace H := cond_t hb4924 H
                    refine run_seq ?_
                    refine run_region rfl ?_
                    refine ops_ex rfl (guard_none rfl) rfl rfl (ex_build (cells := #[(.int .i64 0), (.int .i64 0), (.slice none 0 0), (.slice none 0 0)]) rfl rfl (by kernel_rfl)) ?_
                    refine ops_doesS rfl (guard_none rfl) rfl (does_store (vs := [.int .i64 0, .int .i64 0, .slice none 0 0, .slice none 0 0]) (cs' := [.int .i64 0, .int .i64 0, .slice none 0 0, .slice none 0 0]) rfl rfl rfl rfl tsz25 (Ones.int (Ones.int (Ones.sl (Ones.sl Ones.nil)))) rfl rfl HM) ?_
                    rintro w4925 HM
                    refine ops_ex rfl (guard_none rfl) rfl rfl (ex_assign rfl rfl) ?_
                    refine ops_nil ?_
                    refine at_then ?_
                    refine run_ret ?_
                    refine at_then_ret ?_
                    replace HM := hcl4558 _ _ HM
                    replace HM := HM.empty kRef 60 none
                    replace HM := HM.empty kOut 49 none
                    replace HM := (HM.front 3 rfl rfl).drop
                    replace HM := (HM.front 3 rfl rfl).drop
                    replace HM := (HM.front 3 rfl rfl).drop
                    replace HM := (HM.front 3 rfl rfl).drop
                    replace HM := HM.front 1 rfl rfl
                    replace HM := HM.front 2 rfl rfl
                    have hcb0 := HM.box_at 0 rfl
                    replace HM := (HM.front 0 rfl rfl).drop
                    have hR := Option.some.inj H
                    subst hR
                    exact at_retN1 rfl rfl rfl Tryz.underlying25 rfl tsz25 rfl hcb0 ⟨_, rfl, _, _, rfl, HM⟩
                  · replace H := cond_f hb4924 H
                    refine run_skip ?_
                    refine at_then ?_
                    refine run_seq ?_
                    obtain ⟨t4928, h4929, H⟩ := bind_some H
                    refine run_region rfl ?_
                    refine ops_ex rfl (guard_none rfl) rfl rfl (ex_loadN (cs := [(.int .i64 t4567), (.int .i64 a4617), v4695, v4838]) rfl rfl Tryz.underlying25 rfl tsz25 rfl ((HM.box_at 1 rfl).sub 0 4 rfl)) ?_
                    refine ops_does rfl (guard_none rfl) rfl rfl (does_callk rfl callok28 rfl (impl_txText.calls (x0 := (⟨t4567, a4617, a4696, a4839⟩ : Tx)) (HM.tabPo hwo htab) (HM.own_rd 2 rfl) (HM.own_rd 3 rfl) h4929)) ?_
                    rintro _ w4930 ⟨rfl, hn⟩
                    replace HM : Mem w4552 F4553 w4930 [box b4544 25 [.int .i64 0, .int .i64 0, .slice none 0 0, .slice none 0 0], box b4569 25 [.int .i64 t4567, .int .i64 a4617, v4695, v4838], own kRef 60 v4695 a4696, own kOut 49 v4838 a4839] := HM.call hn
                    refine ops_ex rfl (guard_none rfl) rfl rfl (ex_move rfl rfl) ?_
                    refine ops_ex rfl (guard_none rfl) rfl rfl (ex_extract rfl rfl rfl) ?_
                    refine ops_ex rfl (guard_none rfl) rfl rfl (ex_extract rfl rfl rfl) ?_
                    refine ops_ex rfl (guard_none rfl) rfl rfl (ex_assign rfl rfl) ?_
                    refine ops_ex rfl (guard_none rfl) rfl rfl (ex_assign rfl rfl) ?_
                    refine ops_nil ?_
                    refine at_then ?_
                    refine run_seq ?_
                    refine run_meet (fun ρ_ w_ => ρ_ = [(2, .pointer (some ⟨b4544, 0, none⟩)), (3, .bool ((t4928.2 == 0) && (sEq t4928.1 x0)))] ∧ Mem w4552 F4553 w_ [box b4544 25 [.int .i64 t4567, .int .i64 a4617, v4695, v4838], own kRef 60 v4695 a4696, own kOut 49 v4838 a4839]) ?_ ?_
                    · skip
                      refine run_region rfl ?_
                      refine ops_ex rfl (guard_none rfl) rfl rfl (ex_loadN (cs := [(.int .i64 t4567), (.int .i64 a4617), v4695, v4838]) rfl rfl Tryz.underlying25 rfl tsz25 rfl ((HM.box_at 1 rfl).sub 0 4 rfl)) ?_
                      refine ops_ex rfl (guard_none rfl) rfl rfl (ex_move rfl rfl) ?_
                      refine ops_ex rfl (guard_none rfl) rfl rfl (ex_eql rfl rfl rfl) ?_
                      refine ops_ex rfl (guard_none rfl) rfl rfl (ex_move rfl rfl) ?_
                      refine bool_cases (t4928.2 == 0) (fun hg4931 => ?_) (fun hg4931 => ?_)
                      · skip
                        refine ops_ex rfl (guard_on rfl rfl rfl hg4931) rfl rfl (ex_move rfl rfl) ?_
                        refine ops_ex rfl (guard_on rfl rfl rfl hg4931) rfl rfl (ex_move rfl rfl) ?_
                        refine ops_ex rfl (guard_on rfl rfl rfl hg4931) rfl rfl (ex_seql rfl rfl rfl) ?_
                        refine ops_ex (v := .bool ((t4928.2 == 0) && (sEq t4928.1 x0))) rfl (guard_none rfl) rfl rfl (ex_pand_t rfl rfl hg4931 rfl) ?_
                        refine ops_doesS rfl (guard_none rfl) rfl (does_store (vs := [.int .i64 t4567, .int .i64 a4617, v4695, v4838]) (cs' := [.int .i64 t4567, .int .i64 a4617, v4695, v4838]) rfl rfl rfl rfl tsz25 (Ones.int (Ones.int (Ones.rd (HM.own_rd 2 rfl) (Ones.rd (HM.own_rd 3 rfl) Ones.nil)))) rfl rfl HM) ?_
                        rintro w4932 HM
                        refine ops_ex rfl (guard_none rfl) rfl rfl (ex_assign rfl rfl) ?_
                        refine ops_nil ?_
                        replace HM := (HM.front 1 rfl rfl).drop
                        exact at_meet [(2, .pointer (some ⟨b4544, 0, none⟩)), (3, .bool ((t4928.2 == 0) && (sEq t4928.1 x0)))] ⟨rfl, HM⟩ (Sub.cons rfl (Sub.cons rfl Sub.nil))
                      · skip
                        refine ops_off rfl (guard_off rfl rfl rfl hg4931) rfl rfl ?_
                        refine ops_off rfl (guard_off rfl rfl rfl hg4931) rfl rfl ?_
                        refine ops_off rfl (guard_off rfl rfl rfl hg4931) rfl rfl ?_
                        have hg4933 : ((t4928.2 == 0) && (sEq t4928.1 x0)) = false := by simp only [hg4931, Bool.and_true, Bool.true_and, Bool.and_false, Bool.false_and, Bool.or_true, Bool.true_or, Bool.or_false, Bool.false_or, Bool.not_true, Bool.not_false, Bool.not_not]
                        refine ops_ex (v := .bool ((t4928.2 == 0) && (sEq t4928.1 x0))) rfl (guard_none rfl) rfl rfl (ex_pand_f rfl rfl hg4931) ?_
                        refine ops_doesS rfl (guard_none rfl) rfl (does_store (vs := [.int .i64 t4567, .int .i64 a4617, v4695, v4838]) (cs' := [.int .i64 t4567, .int .i64 a4617, v4695, v4838]) rfl rfl rfl rfl tsz25 (Ones.int (Ones.int (Ones.rd (HM.own_rd 2 rfl) (Ones.rd (HM.own_rd 3 rfl) Ones.nil)))) rfl rfl HM) ?_
                        rintro w4934 HM
                        refine ops_ex rfl (guard_none rfl) rfl rfl (ex_assign rfl rfl) ?_
                        refine ops_nil ?_
                        replace HM := (HM.front 1 rfl rfl).drop
                        exact at_meet [(2, .pointer (some ⟨b4544, 0, none⟩)), (3, .bool ((t4928.2 == 0) && (sEq t4928.1 x0)))] ⟨rfl, HM⟩ (Sub.cons rfl (Sub.cons rfl Sub.nil))
                    · rintro _ w4935 ⟨rfl, HM⟩
                      refine at_then ?_
                      refine run_ret ?_
                      replace HM := hcl4558 _ _ HM
                      replace HM := (HM.front 3 rfl rfl).drop
                      have hcb0 := HM.box_at 0 rfl
                      replace HM := (HM.front 0 rfl rfl).drop
                      have hR := Option.some.inj H
                      subst hR
                      exact at_retN1 rfl rfl rfl Tryz.underlying25 rfl tsz25 rfl hcb0 ⟨_, rfl, _, _, rfl, HM⟩
end Go.Proofs.YtcpacdbdehphkaaGreatDoor.Zk
