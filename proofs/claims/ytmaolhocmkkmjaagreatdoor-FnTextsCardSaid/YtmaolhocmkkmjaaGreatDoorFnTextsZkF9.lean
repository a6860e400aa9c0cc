/- What functions of the program compute, each as a plain function, and that they do. Conditions: as each theorem states them. -/
import Derived.Test.YtmaolhocmkkmjaaGreatDoorFnTextsZkF8
namespace Go.Proofs.YtmaolhocmkkmjaaGreatDoor.Zk
open Go Go.RowKit Go.IntWalk Go.Proofs
set_option linter.unusedVariables false
set_option linter.unusedSimpArgs false
set_option maxRecDepth 100000
set_option maxHeartbeats 4000000
def spec_ParseTx.f (k : Nat) (x0 : ByteArray) : Option TxResult := ((spec_l3Parse.f k x0).bind fun t6432 => (bif !t6432.2 then some (⟨5, (⟨0, 0, ([] : List Ref), ([] : List Out)⟩ : Tx)⟩ : TxResult) else some (⟨0, (⟨t6432.1.fKind, t6432.1.fMember, t6432.1.fIns, t6432.1.fOuts⟩ : Tx)⟩ : TxResult)))
theorem spec_ParseTx.calls {k : Nat} {x0 : ByteArray}  {w : World}  {r : TxResult} (H : spec_ParseTx.f k x0 = some r) :
    Calls Tryz.prog 8 ([.string x0] : List Value).toArray w (fun e w_ => ∃ v, e = .returned v ∧ ∃ u0 : Value, ∃ u1 : Value, v = (.agg #[.int .i64 r.fCode, .int .i64 r.fTx.fKind, .int .i64 r.fTx.fMember, u0, u1]) ∧ Mem w [] w_ [own kRef 62 u0 r.fTx.fIns, own kOut 44 u1 r.fTx.fOuts]) := by
  have HM := Mem.start w
  refine calls_run (N := 15) Tryz.func8 rfl rfl rfl rfl ?_
  unfold spec_ParseTx.f at H
  refine run_seq ?_
  refine run_region rfl ?_
  refine od rfl rfl rfl rfl (does_alloc (cs := [.int .i64 0, .int .i64 0, .int .i64 0, .slice none 0 0, .slice none 0 0]) rfl tz30 rfl HM) ?_
  rintro _ w6431 ⟨b6428, rfl, HM⟩
  refine ops_nil (at_then (run_seq ?_))
  obtain ⟨t6432, h6433, H⟩ := bind_some H
  refine run_region rfl ?_
  refine ox rfl rfl rfl rfl (ex_move rfl rfl) ?_
  refine od rfl rfl rfl rfl (does_callk rfl callok23 rfl (spec_l3Parse.calls (x0 := x0) h6433)) ?_
  rintro _ w6441 ⟨u6434, u6436, rfl, hn⟩
  replace HM : Mem w [] w6441 [own kRef 62 u6434 t6432.1.fIns, own kOut 44 u6436 t6432.1.fOuts, box b6428 30 [.int .i64 0, .int .i64 0, .int .i64 0, .slice none 0 0, .slice none 0 0]] := HM.call hn
  refine ox rfl rfl rfl rfl (ex_move rfl rfl) ?_
  refine ox rfl rfl rfl rfl (ex_extract rfl rfl rfl) ?_
  refine ox rfl rfl rfl rfl (ex_extract rfl rfl rfl) ?_
  refine od rfl rfl rfl rfl (does_alloc (cs := [.int .i64 0, .int .i64 0, .slice none 0 0, .slice none 0 0]) rfl tz28 rfl HM) ?_
  rintro _ w6442 ⟨b6438, rfl, HM⟩
  refine odS rfl rfl rfl (does_store (vs := [.int .i64 t6432.1.fKind, .int .i64 t6432.1.fMember, u6434, u6436]) (cs' := [.int .i64 t6432.1.fKind, .int .i64 t6432.1.fMember, u6434, u6436]) rfl rfl rfl rfl tsz28 (Ones.int (Ones.int (Ones.rd (HM.own_rd 1 rfl) (Ones.rd (HM.own_rd 2 rfl) Ones.nil)))) rfl rfl HM) ?_
  rintro w6443 HM
  refine ox rfl rfl rfl rfl (ex_assign rfl rfl) ?_
  refine ops_nil (at_then (run_seq ?_))
  refine run_seq ?_
  refine run_region rfl ?_
  refine ox rfl rfl rfl rfl (ex_move rfl rfl) ?_
  refine ox rfl rfl rfl rfl (ex_not rfl rfl) ?_
  refine ops_nil (at_then ?_)
  refine run_cond (b := !t6432.2) rfl (fun hb6444 => ?_) (fun hb6444 => ?_)
  · replace H := cond_t hb6444 H
    refine run_seq ?_
    refine run_region rfl ?_
    refine ox rfl rfl rfl rfl (ex_build (cells := #[(.int .i64 5), (.int .i64 0), (.int .i64 0), (.slice none 0 0), (.slice none 0 0)]) rfl rfl (by kernel_rfl)) ?_
    replace HM := HM.front 3 rfl rfl
    refine odS rfl rfl rfl (does_store (vs := [.int .i64 5, .int .i64 0, .int .i64 0, .slice none 0 0, .slice none 0 0]) (cs' := [.int .i64 5, .int .i64 0, .int .i64 0, .slice none 0 0, .slice none 0 0]) rfl rfl rfl rfl tsz30 (Ones.int (Ones.int (Ones.int (Ones.sl (Ones.sl Ones.nil))))) rfl rfl HM) ?_
    rintro w6445 HM
    refine ops_nil (at_then ?_)
    refine run_ret ?_
    refine at_then_ret ?_
    replace HM := HM.empty kRef 62 none
    replace HM := HM.empty kOut 44 none
    replace HM := (HM.front 3 rfl rfl).drop
    replace HM := (HM.front 3 rfl rfl).drop
    replace HM := (HM.front 3 rfl rfl).drop
    replace HM := HM.front 1 rfl rfl
    replace HM := HM.front 2 rfl rfl
    have hcb0 := HM.box_at 0 rfl
    replace HM := (HM.front 0 rfl rfl).drop
    have hR := Option.some.inj H
    subst hR
    exact at_retN rfl rfl Tryz.underlying30 rfl tsz30 rfl hcb0 ⟨_, rfl, _, _, rfl, HM⟩
  · replace H := cond_f hb6444 H
    refine run_skip ?_
    refine at_then ?_
    refine run_seq ?_
    refine run_region rfl ?_
    refine ox rfl rfl rfl rfl (ex_loadN (cs := [(.int .i64 t6432.1.fKind), (.int .i64 t6432.1.fMember), u6434, u6436]) rfl rfl Tryz.underlying28 rfl tsz28 rfl ((HM.box_at 0 rfl).sub 0 4 rfl)) ?_
    refine ox rfl rfl rfl rfl (ex_build2 (fun u6434 u6436 => [(1, .agg #[(.int .i64 t6432.1.fKind), (.int .i64 t6432.1.fMember), u6434, u6436])]) (fun u6434 u6436 => #[.int .i64 0, .int .i64 t6432.1.fKind, .int .i64 t6432.1.fMember, u6434, u6436]) rfl rfl (fun _ _ _ _ _ _ => by kernel_rfl) (HM.own_rd 1 rfl).isSl (HM.own_rd 2 rfl).isSl) ?_
    replace HM := HM.front 3 rfl rfl
    refine odS rfl rfl rfl (does_store (vs := [.int .i64 0, .int .i64 t6432.1.fKind, .int .i64 t6432.1.fMember, u6434, u6436]) (cs' := [.int .i64 0, .int .i64 t6432.1.fKind, .int .i64 t6432.1.fMember, u6434, u6436]) rfl rfl rfl rfl tsz30 (Ones.int (Ones.int (Ones.int (Ones.rd (HM.own_rd 2 rfl) (Ones.rd (HM.own_rd 3 rfl) Ones.nil))))) rfl rfl HM) ?_
    rintro w6448 HM
    refine ops_nil (at_then ?_)
    refine run_ret ?_
    replace HM := (HM.front 1 rfl rfl).drop
    have hcb0 := HM.box_at 0 rfl
    replace HM := (HM.front 0 rfl rfl).drop
    have hR := Option.some.inj H
    subst hR
    exact at_retN rfl rfl Tryz.underlying30 rfl tsz30 rfl hcb0 ⟨_, rfl, _, _, rfl, HM⟩

def spec_l2Bent.f (k : Nat) (x0 : l1Src) : Option (Rule × Int) := ((spec_l2Draw.f k x0).bind fun t6644 => ((spec_l1Next.f k (⟨x0.fCode, t6644.2⟩ : l1Src) 10).bind fun t6660 => (bif (t6660.1 == 0) then ((spec_l1Pick.f k (⟨x0.fCode, t6660.2⟩ : l1Src) ([0, 1, 1000] : List Int)).bind fun t6673 => (chk (leB ((t6644.1.fKeys.length + ([t6673.1] : List Int).length) * 8) 140737488355328) (some ((⟨t6644.1.fKeys ++ ([t6673.1] : List Int), t6644.1.fNeed, t6644.1.fAfter⟩ : Rule), t6673.2)))) else (bif (t6660.1 == 1) then ((spec_l1Pick.f k (⟨x0.fCode, t6660.2⟩ : l1Src) ([0, 4, 2] : List Int)).bind fun t6715 => some ((⟨t6644.1.fKeys, t6715.1, t6644.1.fAfter⟩ : Rule), t6715.2)) else (bif (t6660.1 == 2) then ((spec_l1Pick.f k (⟨x0.fCode, t6660.2⟩ : l1Src) ([(-1), 999, 1000] : List Int)).bind fun t6731 => some ((⟨t6644.1.fKeys, t6644.1.fNeed, t6731.1⟩ : Rule), t6731.2)) else (bif (t6660.1 == 3) then some ((⟨([] : List Int), t6644.1.fNeed, t6644.1.fAfter⟩ : Rule), t6660.2) else some ((⟨t6644.1.fKeys, t6644.1.fNeed, t6644.1.fAfter⟩ : Rule), t6660.2)))))))
theorem spec_l2Bent.calls {k : Nat} {x0 : l1Src} {b0 : Nat} {p0_0 : Value} {w wo : World} {X : List Nat} (hwo : Olds wo w X) (hX : Hold w [box b0 70 [p0_0, .int .i64 x0.fAt]] X) (hXn : X.Nodup) (hXl : ∀ b ∈ X, b < w.heap.size) (hp0_0 : RdS kU8 wo p0_0 x0.fCode) {r : Rule × Int} (H : spec_l2Bent.f k x0 = some r) :
    Calls Tryz.prog 55 ([.pointer (some ⟨b0, 0, none⟩)] : List Value).toArray w (fun e w_ => ∃ v, e = .returned v ∧ ∃ u0 : Value, v = (.agg #[u0, .int .i64 r.1.fNeed, .int .i64 r.1.fAfter]) ∧ Mem w X w_ [own kInt 2 u0 r.1.fKeys, box b0 70 [p0_0, .int .i64 r.2]]) := by
  have HM := Mem.startX hX hXn hXl
  refine calls_run (N := 34) Tryz.func55 rfl rfl rfl rfl ?_
  unfold spec_l2Bent.f at H
  refine run_seq ?_
  refine run_region rfl ?_
  refine od rfl rfl rfl rfl (does_alloc (cs := [.slice none 0 0, .int .i64 0, .int .i64 0]) rfl tz42 rfl HM) ?_
  rintro _ w6643 ⟨b6640, rfl, HM⟩
  refine ops_nil (at_then (run_seq ?_))
  obtain ⟨t6644, h6645, H⟩ := bind_some H
  refine run_region rfl ?_
  refine ox rfl rfl rfl rfl (ex_move rfl rfl) ?_
  replace HM := HM.front 1 rfl rfl
  obtain ⟨F6648, hF6649, hFn6650, hFl6651, HMh6652, hcl6653⟩ := HM.hide (Ms := [box b0 70 [p0_0, .int .i64 x0.fAt]])
  refine od rfl rfl rfl rfl (does_callk rfl callok38 rfl (spec_l2Draw.calls (x0 := x0) (hide_olds _ _) hF6649 hFn6650 hFl6651 (HMh6652.rdo hwo hp0_0) h6645)) ?_
  rintro _ w6657 ⟨u6646, rfl, hn⟩
  replace HM : Mem w X w6657 [own kInt 2 u6646 t6644.1.fKeys, box b0 70 [p0_0, .int .i64 t6644.2], box b6640 42 [.slice none 0 0, .int .i64 0, .int .i64 0]] := hcl6653 _ _ hn
  refine od rfl rfl rfl rfl (does_alloc (cs := [.slice none 0 0, .int .i64 0, .int .i64 0]) rfl tz42 rfl HM) ?_
  rintro _ w6658 ⟨b6654, rfl, HM⟩
  refine odS rfl rfl rfl (does_store (vs := [u6646, .int .i64 t6644.1.fNeed, .int .i64 t6644.1.fAfter]) (cs' := [u6646, .int .i64 t6644.1.fNeed, .int .i64 t6644.1.fAfter]) rfl rfl rfl rfl tsz42 (Ones.rd (HM.own_rd 1 rfl) (Ones.int (Ones.int Ones.nil))) rfl rfl HM) ?_
  rintro w6659 HM
  refine ops_nil (at_then (run_seq ?_))
  refine run_seq ?_
  obtain ⟨t6660, h6661, H⟩ := bind_some H
  refine run_region rfl ?_
  refine ox rfl rfl rfl rfl (ex_move rfl rfl) ?_
  replace HM := HM.front 2 rfl rfl
  obtain ⟨F6662, hF6663, hFn6664, hFl6665, HMh6666, hcl6667⟩ := HM.hide (Ms := [box b0 70 [p0_0, .int .i64 t6644.2]])
  refine od rfl rfl rfl rfl (does_callk rfl callok19 rfl (spec_l1Next.calls (x0 := (⟨x0.fCode, t6644.2⟩ : l1Src)) (x1 := 10) (hide_olds _ _) hF6663 hFn6664 hFl6665 (HMh6666.rdo hwo hp0_0) h6661)) ?_
  rintro _ w6668 ⟨rfl, hn⟩
  replace HM : Mem w X w6668 [box b0 70 [p0_0, .int .i64 t6660.2], box b6654 42 [u6646, .int .i64 t6644.1.fNeed, .int .i64 t6644.1.fAfter], own kInt 2 u6646 t6644.1.fKeys, box b6640 42 [.slice none 0 0, .int .i64 0, .int .i64 0]] := hcl6667 _ _ hn
  refine ops_nil (at_then ?_)
  refine run_block ?_
  refine run_seq ?_
  refine run_region rfl ?_
  refine ox rfl rfl rfl rfl (ex_eql rfl rfl rfl) ?_
  refine ox rfl rfl rfl rfl (ex_assign rfl rfl) ?_
  refine ops_nil (at_then ?_)
  refine run_cond (b := (t6660.1 == 0)) rfl (fun hb6669 => ?_) (fun hb6669 => ?_)
  · replace H := cond_t hb6669 H
    obtain ⟨t6673, h6674, H⟩ := bind_some H
    obtain ⟨e6684, H⟩ := chk_some H
    refine run_meet (fun ρ_ w_ => ∃ v6685 : Value, ρ_ = [(2, .pointer (some ⟨b6640, 0, none⟩)), (3, .pointer (some ⟨b6654, 0, none⟩))] ∧ Mem w X w_ [box b0 70 [p0_0, .int .i64 t6673.2], box b6640 42 [.slice none 0 0, .int .i64 0, .int .i64 0], box b6654 42 [v6685, .int .i64 t6644.1.fNeed, .int .i64 t6644.1.fAfter], own kInt 2 v6685 (t6644.1.fKeys ++ ([t6673.1] : List Int))]) ?_ ?_
    · skip
      replace HM := HM.front 2 rfl rfl
      replace HM := HM.front 2 rfl rfl
      replace HM := HM.front 2 rfl rfl
      refine run_draw (fun w_ => Mem w X w_ [box b6640 42 [.slice none 0 0, .int .i64 0, .int .i64 0]]) mixed rfl (l := #[false, false, false, false, false, false, false, false, false]) rfl ?_
      replace HM := HM.grow (fr_drew _)
      have hS := Mem.suf (M := [box b0 70 [p0_0, .int .i64 t6660.2], box b6654 42 [u6646, .int .i64 t6644.1.fNeed, .int .i64 t6644.1.fAfter], own kInt 2 u6646 t6644.1.fKeys]) HM
      refine drw_cut2 (l' := #[true, true, true, true, true, true, false, false, false]) (f' := 3) (fun (v6670 : Value) => fun (v6681 : Value) => [(2, .pointer (some ⟨b6640, 0, none⟩)), (3, .pointer (some ⟨b6654, 0, none⟩)), (11, u6646), (15, v6681)]) (fun (v6670 : Value) => fun (v6681 : Value) => fun w_ => Mem w X w_ [own kInt 2 v6681 ([t6673.1] : List Int), box b0 70 [p0_0, .int .i64 t6673.2], own kInt 2 v6670 ([0, 1, 1000] : List Int), box b6654 42 [u6646, .int .i64 t6644.1.fNeed, .int .i64 t6644.1.fAfter], own kInt 2 u6646 t6644.1.fKeys, box b6640 42 [.slice none 0 0, .int .i64 0, .int .i64 0]]) ?_ (fun K6695 => ?_)
      · rintro v6670 v6681 w6696 HM
        replace HM : Mem w X w6696 [own kInt 2 v6681 ([t6673.1] : List Int), box b0 70 [p0_0, .int .i64 t6673.2], own kInt 2 v6670 ([0, 1, 1000] : List Int), box b6654 42 [u6646, .int .i64 t6644.1.fNeed, .int .i64 t6644.1.fAfter], own kInt 2 u6646 t6644.1.fKeys, box b6640 42 [.slice none 0 0, .int .i64 0, .int .i64 0]] := HM
        have hS := Mem.suf (M := [own kInt 2 v6681 ([t6673.1] : List Int), box b0 70 [p0_0, .int .i64 t6673.2], own kInt 2 v6670 ([0, 1, 1000] : List Int), box b6654 42 [u6646, .int .i64 t6644.1.fNeed, .int .i64 t6644.1.fAfter], own kInt 2 u6646 t6644.1.fKeys]) HM
        replace HM := HM.front 4 rfl rfl
        refine drw_any [6] (by kernel_rfl) rfl (.cons ?_ .nil)
        refine br_does (l' := #[true, true, true, true, true, true, true, false, false]) rfl (guard_none rfl) rfl rfl (by kernel_rfl) (does_appendR kInt flat_plain rfl rfl rfl Tryz.underlying40 tsz2 rfl tby2 tz2 rfl rfl (leB_le e6684) (HM.own_rd 1 rfl) HM) ?_
        rintro v6685 w6697 HM
        have hS := Mem.suf (M := [own kInt 2 v6685 (t6644.1.fKeys ++ ([t6673.1] : List Int)), own kInt 2 v6681 ([t6673.1] : List Int), box b0 70 [p0_0, .int .i64 t6673.2], own kInt 2 v6670 ([0, 1, 1000] : List Int), box b6654 42 [u6646, .int .i64 t6644.1.fNeed, .int .i64 t6644.1.fAfter]]) HM
        refine ⟨hS, ?_⟩
        refine dt 7 #[true, true, true, true, true, true, true, true, false] rfl rfl rfl rfl (by kernel_rfl) (ex_fieldAddr (off' := 0) rfl rfl Tryz.underlying42 rfl tsz40 rfl) hS ?_
        replace HM := HM.front 4 rfl rfl
        refine drw_any [8] (by kernel_rfl) rfl (.cons ?_ .nil)
        refine br_doesS (l' := #[true, true, true, true, true, true, true, true, true]) rfl (guard_none rfl) rfl (by kernel_rfl) (does_store (vs := [v6685]) (cs' := [v6685, .int .i64 t6644.1.fNeed, .int .i64 t6644.1.fAfter]) rfl rfl rfl (rd_cells (HM.own_rd 1 rfl)) tsz40 (Ones.rd (HM.own_rd 1 rfl) Ones.nil) rfl rfl HM) ?_
        rintro w6698 HM
        have hS := Mem.suf (M := [box b6654 42 [v6685, .int .i64 t6644.1.fNeed, .int .i64 t6644.1.fAfter], own kInt 2 v6685 (t6644.1.fKeys ++ ([t6673.1] : List Int)), own kInt 2 v6681 ([t6673.1] : List Int), box b0 70 [p0_0, .int .i64 t6673.2], own kInt 2 v6670 ([0, 1, 1000] : List Int)]) HM
        refine ⟨hS, ?_⟩
        refine drw_done (by kernel_rfl) ?_
        replace HM := (HM.front 2 rfl rfl).drop
        replace HM := (HM.front 3 rfl rfl).drop
        replace HM := HM.front 1 rfl rfl
        replace HM := HM.front 1 rfl rfl
        replace HM := HM.front 3 rfl rfl
        replace HM := HM.front 3 rfl rfl
        exact at_meet [(2, .pointer (some ⟨b6640, 0, none⟩)), (3, .pointer (some ⟨b6654, 0, none⟩))] ⟨_, rfl, HM⟩ (Sub.cons rfl (Sub.cons rfl Sub.nil))
      refine drw_cut1 (l' := #[true, true, true, true, true, false, false, false, false]) (f' := 4) (fun (v6670 : Value) => [(2, .pointer (some ⟨b6640, 0, none⟩)), (3, .pointer (some ⟨b6654, 0, none⟩)), (11, u6646), (14, .int .i64 t6673.1)]) (fun (v6670 : Value) => fun w_ => Mem w X w_ [box b0 70 [p0_0, .int .i64 t6673.2], own kInt 2 v6670 ([0, 1, 1000] : List Int), box b6654 42 [u6646, .int .i64 t6644.1.fNeed, .int .i64 t6644.1.fAfter], own kInt 2 u6646 t6644.1.fKeys, box b6640 42 [.slice none 0 0, .int .i64 0, .int .i64 0]]) ?_ (fun K6699 => ?_)
      · rintro v6670 w6700 HM
        replace HM : Mem w X w6700 [box b0 70 [p0_0, .int .i64 t6673.2], own kInt 2 v6670 ([0, 1, 1000] : List Int), box b6654 42 [u6646, .int .i64 t6644.1.fNeed, .int .i64 t6644.1.fAfter], own kInt 2 u6646 t6644.1.fKeys, box b6640 42 [.slice none 0 0, .int .i64 0, .int .i64 0]] := HM
        have hS := Mem.suf (M := [box b0 70 [p0_0, .int .i64 t6673.2], own kInt 2 v6670 ([0, 1, 1000] : List Int), box b6654 42 [u6646, .int .i64 t6644.1.fNeed, .int .i64 t6644.1.fAfter], own kInt 2 u6646 t6644.1.fKeys]) HM
        refine drw_any [5] (by kernel_rfl) rfl (.cons ?_ .nil)
        refine br_does (l' := #[true, true, true, true, true, true, false, false, false]) rfl (guard_none rfl) rfl rfl (by kernel_rfl) (does_lit (e := 2) (cs := [.int .i64 t6673.1]) (xs := ([t6673.1] : List Int)) kInt rfl rfl (fun _ => by kernel_rfl) rfl rfl (fun _ _ h => by have h' : _ = [] := h; subst h'; exact (Elems.cons (d := kInt) (x := t6673.1) (f := []) ⟨rfl, rfl⟩ .nil)) HM.emp) ?_
        rintro v6681 w6701 HM
        have hS := Mem.suf (M := [own kInt 2 v6681 ([t6673.1] : List Int), box b0 70 [p0_0, .int .i64 t6673.2], own kInt 2 v6670 ([0, 1, 1000] : List Int), box b6654 42 [u6646, .int .i64 t6644.1.fNeed, .int .i64 t6644.1.fAfter], own kInt 2 u6646 t6644.1.fKeys]) HM
        refine ⟨hS, ?_⟩
        exact drw_sub (K6695 v6670 v6681 _ HM) (Sub.cons rfl (Sub.cons rfl (Sub.cons rfl (Sub.cons rfl Sub.nil))))
      refine drw_cut1 (l' := #[true, true, true, true, false, false, false, false, false]) (f' := 5) (fun (v6670 : Value) => [(2, .pointer (some ⟨b6640, 0, none⟩)), (3, .pointer (some ⟨b6654, 0, none⟩)), (12, .pointer (some ⟨b0, 0, none⟩)), (11, u6646), (13, v6670)]) (fun (v6670 : Value) => fun w_ => Mem w X w_ [own kInt 2 v6670 ([0, 1, 1000] : List Int), box b0 70 [p0_0, .int .i64 t6660.2], box b6654 42 [u6646, .int .i64 t6644.1.fNeed, .int .i64 t6644.1.fAfter], own kInt 2 u6646 t6644.1.fKeys, box b6640 42 [.slice none 0 0, .int .i64 0, .int .i64 0]]) ?_ (fun K6702 => ?_)
      · rintro v6670 w6703 HM
        replace HM : Mem w X w6703 [own kInt 2 v6670 ([0, 1, 1000] : List Int), box b0 70 [p0_0, .int .i64 t6660.2], box b6654 42 [u6646, .int .i64 t6644.1.fNeed, .int .i64 t6644.1.fAfter], own kInt 2 u6646 t6644.1.fKeys, box b6640 42 [.slice none 0 0, .int .i64 0, .int .i64 0]] := HM
        have hS := Mem.suf (M := [own kInt 2 v6670 ([0, 1, 1000] : List Int), box b0 70 [p0_0, .int .i64 t6660.2], box b6654 42 [u6646, .int .i64 t6644.1.fNeed, .int .i64 t6644.1.fAfter], own kInt 2 u6646 t6644.1.fKeys]) HM
        replace HM := HM.front 1 rfl rfl
        obtain ⟨F6675, hF6676, hFn6677, hFl6678, HMh6679, hcl6680⟩ := HM.hide (Ms := [box b0 70 [p0_0, .int .i64 t6660.2]])
        refine drw_any [4] (by kernel_rfl) rfl (.cons ?_ .nil)
        refine br_does (l' := #[true, true, true, true, true, false, false, false, false]) rfl (guard_none rfl) rfl rfl (by kernel_rfl) (does_callk rfl callok20 rfl (spec_l1Pick.calls (x0 := (⟨x0.fCode, t6660.2⟩ : l1Src)) (x1 := ([0, 1, 1000] : List Int)) (hide_olds _ _) hF6676 hFn6677 hFl6678 (HMh6679.rdo hwo hp0_0) (HMh6679.own_rd 0 rfl) h6674)) ?_
        rintro _ w6704 ⟨rfl, hn⟩
        replace HM : Mem w X w6704 [box b0 70 [p0_0, .int .i64 t6673.2], own kInt 2 v6670 ([0, 1, 1000] : List Int), box b6654 42 [u6646, .int .i64 t6644.1.fNeed, .int .i64 t6644.1.fAfter], own kInt 2 u6646 t6644.1.fKeys, box b6640 42 [.slice none 0 0, .int .i64 0, .int .i64 0]] := hcl6680 _ _ hn
        have hS := Mem.suf (M := [box b0 70 [p0_0, .int .i64 t6673.2], own kInt 2 v6670 ([0, 1, 1000] : List Int), box b6654 42 [u6646, .int .i64 t6644.1.fNeed, .int .i64 t6644.1.fAfter], own kInt 2 u6646 t6644.1.fKeys]) HM
        refine ⟨hS, ?_⟩
        exact drw_sub (K6699 v6670 _ HM) (Sub.cons rfl (Sub.cons rfl (Sub.cons rfl (Sub.cons rfl Sub.nil))))
      refine dt 0 #[true, false, false, false, false, false, false, false, false] rfl rfl rfl rfl (by kernel_rfl) (ex_fieldAddr (off' := 0) rfl rfl Tryz.underlying42 rfl tsz40 rfl) hS ?_
      refine dt 2 #[true, false, true, false, false, false, false, false, false] rfl rfl rfl rfl (by kernel_rfl) (ex_move rfl rfl) hS ?_
      refine drw_any [1, 3] (by kernel_rfl) rfl (.cons ?_ (.cons ?_ .nil))
      · skip
        refine br_does (l' := #[true, true, true, false, false, false, false, false, false]) rfl (guard_none rfl) rfl rfl (by kernel_rfl) (does_ex' (ex_load1 rfl rfl Tryz.underlying40 rfl ((HM.box_at 1 rfl) 0 _ rfl))) ?_
        rintro _ _ ⟨rfl, rfl⟩
        refine ⟨hS, ?_⟩
        refine drw_any [3] (by kernel_rfl) rfl (.cons ?_ .nil)
        refine br_does (l' := #[true, true, true, true, false, false, false, false, false]) rfl (guard_none rfl) rfl rfl (by kernel_rfl) (does_lit (e := 2) (cs := [.int .i64 0, .int .i64 1, .int .i64 1000]) (xs := ([0, 1, 1000] : List Int)) kInt rfl rfl (fun _ => by kernel_rfl) rfl rfl (fun _ _ h => by have h' : _ = [] := h; subst h'; exact (Elems.cons (d := kInt) (x := 0) (f := []) ⟨rfl, rfl⟩ (Elems.cons (d := kInt) (x := 1) (f := []) ⟨rfl, rfl⟩ (Elems.cons (d := kInt) (x := 1000) (f := []) ⟨rfl, rfl⟩ .nil)))) HM.emp) ?_
        rintro v6670 w6705 HM
        have hS := Mem.suf (M := [own kInt 2 v6670 ([0, 1, 1000] : List Int), box b0 70 [p0_0, .int .i64 t6660.2], box b6654 42 [u6646, .int .i64 t6644.1.fNeed, .int .i64 t6644.1.fAfter], own kInt 2 u6646 t6644.1.fKeys]) HM
        refine ⟨hS, ?_⟩
        exact drw_sub (K6702 v6670 _ HM) (Sub.cons rfl (Sub.cons rfl (Sub.cons rfl (Sub.cons rfl (Sub.cons rfl Sub.nil)))))
      · skip
        refine br_does (l' := #[true, false, true, true, false, false, false, false, false]) rfl (guard_none rfl) rfl rfl (by kernel_rfl) (does_lit (e := 2) (cs := [.int .i64 0, .int .i64 1, .int .i64 1000]) (xs := ([0, 1, 1000] : List Int)) kInt rfl rfl (fun _ => by kernel_rfl) rfl rfl (fun _ _ h => by have h' : _ = [] := h; subst h'; exact (Elems.cons (d := kInt) (x := 0) (f := []) ⟨rfl, rfl⟩ (Elems.cons (d := kInt) (x := 1) (f := []) ⟨rfl, rfl⟩ (Elems.cons (d := kInt) (x := 1000) (f := []) ⟨rfl, rfl⟩ .nil)))) HM.emp) ?_
        rintro v6670 w6706 HM
        have hS := Mem.suf (M := [own kInt 2 v6670 ([0, 1, 1000] : List Int), box b0 70 [p0_0, .int .i64 t6660.2], box b6654 42 [u6646, .int .i64 t6644.1.fNeed, .int .i64 t6644.1.fAfter], own kInt 2 u6646 t6644.1.fKeys]) HM
        refine ⟨hS, ?_⟩
        refine drw_any [1, 4] (by kernel_rfl) rfl (.cons ?_ (.cons ?_ .nil))
        · skip
          refine br_does (l' := #[true, true, true, true, false, false, false, false, false]) rfl (guard_none rfl) rfl rfl (by kernel_rfl) (does_ex' (ex_load1 rfl rfl Tryz.underlying40 rfl ((HM.box_at 2 rfl) 0 _ rfl))) ?_
          rintro _ _ ⟨rfl, rfl⟩
          refine ⟨hS, ?_⟩
          exact drw_sub (K6702 v6670 _ HM) (Sub.cons rfl (Sub.cons rfl (Sub.cons rfl (Sub.cons rfl (Sub.cons rfl Sub.nil)))))
        · skip
          replace HM := HM.front 1 rfl rfl
          obtain ⟨F6675, hF6676, hFn6677, hFl6678, HMh6679, hcl6680⟩ := HM.hide (Ms := [box b0 70 [p0_0, .int .i64 t6660.2]])
          refine br_does (l' := #[true, false, true, true, true, false, false, false, false]) rfl (guard_none rfl) rfl rfl (by kernel_rfl) (does_callk rfl callok20 rfl (spec_l1Pick.calls (x0 := (⟨x0.fCode, t6660.2⟩ : l1Src)) (x1 := ([0, 1, 1000] : List Int)) (hide_olds _ _) hF6676 hFn6677 hFl6678 (HMh6679.rdo hwo hp0_0) (HMh6679.own_rd 0 rfl) h6674)) ?_
          rintro _ w6707 ⟨rfl, hn⟩
          replace HM : Mem w X w6707 [box b0 70 [p0_0, .int .i64 t6673.2], own kInt 2 v6670 ([0, 1, 1000] : List Int), box b6654 42 [u6646, .int .i64 t6644.1.fNeed, .int .i64 t6644.1.fAfter], own kInt 2 u6646 t6644.1.fKeys, box b6640 42 [.slice none 0 0, .int .i64 0, .int .i64 0]] := hcl6680 _ _ hn
          have hS := Mem.suf (M := [box b0 70 [p0_0, .int .i64 t6673.2], own kInt 2 v6670 ([0, 1, 1000] : List Int), box b6654 42 [u6646, .int .i64 t6644.1.fNeed, .int .i64 t6644.1.fAfter], own kInt 2 u6646 t6644.1.fKeys]) HM
          refine ⟨hS, ?_⟩
          refine drw_any [1, 5] (by kernel_rfl) rfl (.cons ?_ (.cons ?_ .nil))
          · skip
            refine br_does (l' := #[true, true, true, true, true, false, false, false, false]) rfl (guard_none rfl) rfl rfl (by kernel_rfl) (does_ex' (ex_load1 rfl rfl Tryz.underlying40 rfl ((HM.box_at 2 rfl) 0 _ rfl))) ?_
            rintro _ _ ⟨rfl, rfl⟩
            refine ⟨hS, ?_⟩
            exact drw_sub (K6699 v6670 _ HM) (Sub.cons rfl (Sub.cons rfl (Sub.cons rfl (Sub.cons rfl Sub.nil))))
          · skip
            refine br_does (l' := #[true, false, true, true, true, true, false, false, false]) rfl (guard_none rfl) rfl rfl (by kernel_rfl) (does_lit (e := 2) (cs := [.int .i64 t6673.1]) (xs := ([t6673.1] : List Int)) kInt rfl rfl (fun _ => by kernel_rfl) rfl rfl (fun _ _ h => by have h' : _ = [] := h; subst h'; exact (Elems.cons (d := kInt) (x := t6673.1) (f := []) ⟨rfl, rfl⟩ .nil)) HM.emp) ?_
            rintro v6681 w6708 HM
            have hS := Mem.suf (M := [own kInt 2 v6681 ([t6673.1] : List Int), box b0 70 [p0_0, .int .i64 t6673.2], own kInt 2 v6670 ([0, 1, 1000] : List Int), box b6654 42 [u6646, .int .i64 t6644.1.fNeed, .int .i64 t6644.1.fAfter], own kInt 2 u6646 t6644.1.fKeys]) HM
            refine ⟨hS, ?_⟩
            refine drw_any [1] (by kernel_rfl) rfl (.cons ?_ .nil)
            refine br_does (l' := #[true, true, true, true, true, true, false, false, false]) rfl (guard_none rfl) rfl rfl (by kernel_rfl) (does_ex' (ex_load1 rfl rfl Tryz.underlying40 rfl ((HM.box_at 3 rfl) 0 _ rfl))) ?_
            rintro _ _ ⟨rfl, rfl⟩
            refine ⟨hS, ?_⟩
            exact drw_sub (K6695 v6670 v6681 _ HM) (Sub.cons rfl (Sub.cons rfl (Sub.cons rfl (Sub.cons rfl Sub.nil))))
    · rintro _ w6709 ⟨v6685, rfl, HM⟩
      refine at_block ?_
      refine at_then ?_
      refine run_seq ?_
      refine run_region rfl ?_
      refine ox rfl rfl rfl rfl (ex_loadN (cs := [v6685, (.int .i64 t6644.1.fNeed), (.int .i64 t6644.1.fAfter)]) rfl rfl Tryz.underlying42 rfl tsz42 rfl ((HM.box_at 2 rfl).sub 0 3 rfl)) ?_
      replace HM := HM.front 1 rfl rfl
      refine odS rfl rfl rfl (does_store (vs := [v6685, .int .i64 t6644.1.fNeed, .int .i64 t6644.1.fAfter]) (cs' := [v6685, .int .i64 t6644.1.fNeed, .int .i64 t6644.1.fAfter]) rfl rfl rfl rfl tsz42 (Ones.rd (HM.own_rd 3 rfl) (Ones.int (Ones.int Ones.nil))) rfl rfl HM) ?_
      rintro w6710 HM
      refine ops_nil (at_then ?_)
      refine run_ret ?_
      replace HM := (HM.front 2 rfl rfl).drop
      replace HM := HM.front 1 rfl rfl
      replace HM := HM.front 2 rfl rfl
      replace HM := HM.front 2 rfl rfl
      have hcb0 := HM.box_at 0 rfl
      replace HM := (HM.front 0 rfl rfl).drop
      have hR := Option.some.inj H
      subst hR
      exact at_retN rfl rfl Tryz.underlying42 rfl tsz42 rfl hcb0 ⟨_, rfl, _, rfl, HM⟩
  · replace H := cond_f hb6669 H
    refine run_seq ?_
    refine run_region rfl ?_
    refine ox rfl rfl rfl rfl (ex_eql rfl rfl rfl) ?_
    refine ox rfl rfl rfl rfl (ex_assign rfl rfl) ?_
    refine ops_nil (at_then ?_)
    refine run_cond (b := (t6660.1 == 1)) rfl (fun hb6711 => ?_) (fun hb6711 => ?_)
    · replace H := cond_t hb6711 H
      obtain ⟨t6715, h6716, H⟩ := bind_some H
      refine run_region rfl ?_
      refine ox rfl rfl rfl rfl (ex_move rfl rfl) ?_
      refine od rfl rfl rfl rfl (does_lit (e := 2) (cs := [.int .i64 0, .int .i64 4, .int .i64 2]) (xs := ([0, 4, 2] : List Int)) kInt rfl rfl (fun _ => by kernel_rfl) rfl rfl (fun _ _ h => by have h' : _ = [] := h; subst h'; exact (Elems.cons (d := kInt) (x := 0) (f := []) ⟨rfl, rfl⟩ (Elems.cons (d := kInt) (x := 4) (f := []) ⟨rfl, rfl⟩ (Elems.cons (d := kInt) (x := 2) (f := []) ⟨rfl, rfl⟩ .nil)))) HM.emp) ?_
      rintro v6712 w6723 HM
      replace HM := HM.front 1 rfl rfl
      obtain ⟨F6717, hF6718, hFn6719, hFl6720, HMh6721, hcl6722⟩ := HM.hide (Ms := [box b0 70 [p0_0, .int .i64 t6660.2]])
      refine od rfl rfl rfl rfl (does_callk rfl callok20 rfl (spec_l1Pick.calls (x0 := (⟨x0.fCode, t6660.2⟩ : l1Src)) (x1 := ([0, 4, 2] : List Int)) (hide_olds _ _) hF6718 hFn6719 hFl6720 (HMh6721.rdo hwo hp0_0) (HMh6721.own_rd 0 rfl) h6716)) ?_
      rintro _ w6724 ⟨rfl, hn⟩
      replace HM : Mem w X w6724 [box b0 70 [p0_0, .int .i64 t6715.2], own kInt 2 v6712 ([0, 4, 2] : List Int), box b6654 42 [u6646, .int .i64 t6644.1.fNeed, .int .i64 t6644.1.fAfter], own kInt 2 u6646 t6644.1.fKeys, box b6640 42 [.slice none 0 0, .int .i64 0, .int .i64 0]] := hcl6722 _ _ hn
      refine ox rfl rfl rfl rfl (ex_fieldAddr (off' := 1) rfl rfl Tryz.underlying42 rfl tsz2 rfl) ?_
      replace HM := HM.front 2 rfl rfl
      refine odS rfl rfl rfl (does_store (vs := [.int .i64 t6715.1]) (cs' := [u6646, .int .i64 t6715.1, .int .i64 t6644.1.fAfter]) rfl rfl rfl rfl tsz2 (Ones.int Ones.nil) rfl rfl HM) ?_
      rintro w6725 HM
      refine ops_nil ?_
      refine at_block ?_
      refine at_then ?_
      refine run_seq ?_
      refine run_region rfl ?_
      refine ox rfl rfl rfl rfl (ex_loadN (cs := [u6646, (.int .i64 t6715.1), (.int .i64 t6644.1.fAfter)]) rfl rfl Tryz.underlying42 rfl tsz42 rfl ((HM.box_at 0 rfl).sub 0 3 rfl)) ?_
      replace HM := HM.front 4 rfl rfl
      refine odS rfl rfl rfl (does_store (vs := [u6646, .int .i64 t6715.1, .int .i64 t6644.1.fAfter]) (cs' := [u6646, .int .i64 t6715.1, .int .i64 t6644.1.fAfter]) rfl rfl rfl rfl tsz42 (Ones.rd (HM.own_rd 4 rfl) (Ones.int (Ones.int Ones.nil))) rfl rfl HM) ?_
      rintro w6726 HM
      refine ops_nil (at_then ?_)
      refine run_ret ?_
      replace HM := (HM.front 1 rfl rfl).drop
      replace HM := (HM.front 2 rfl rfl).drop
      replace HM := HM.front 1 rfl rfl
      replace HM := HM.front 2 rfl rfl
      replace HM := HM.front 2 rfl rfl
      have hcb0 := HM.box_at 0 rfl
      replace HM := (HM.front 0 rfl rfl).drop
      have hR := Option.some.inj H
      subst hR
      exact at_retN rfl rfl Tryz.underlying42 rfl tsz42 rfl hcb0 ⟨_, rfl, _, rfl, HM⟩
    · replace H := cond_f hb6711 H
      refine run_seq ?_
      refine run_region rfl ?_
      refine ox rfl rfl rfl rfl (ex_eql rfl rfl rfl) ?_
      refine ox rfl rfl rfl rfl (ex_assign rfl rfl) ?_
      refine ops_nil (at_then ?_)
      refine run_cond (b := (t6660.1 == 2)) rfl (fun hb6727 => ?_) (fun hb6727 => ?_)
      · replace H := cond_t hb6727 H
        obtain ⟨t6731, h6732, H⟩ := bind_some H
        refine run_region rfl ?_
        refine ox rfl rfl rfl rfl (ex_move rfl rfl) ?_
        refine od rfl rfl rfl rfl (does_lit (e := 2) (cs := [.int .i64 (-1), .int .i64 999, .int .i64 1000]) (xs := ([(-1), 999, 1000] : List Int)) kInt rfl rfl (fun _ => by kernel_rfl) rfl rfl (fun _ _ h => by have h' : _ = [] := h; subst h'; exact (Elems.cons (d := kInt) (x := (-1)) (f := []) ⟨rfl, rfl⟩ (Elems.cons (d := kInt) (x := 999) (f := []) ⟨rfl, rfl⟩ (Elems.cons (d := kInt) (x := 1000) (f := []) ⟨rfl, rfl⟩ .nil)))) HM.emp) ?_
        rintro v6728 w6739 HM
        replace HM := HM.front 1 rfl rfl
        obtain ⟨F6733, hF6734, hFn6735, hFl6736, HMh6737, hcl6738⟩ := HM.hide (Ms := [box b0 70 [p0_0, .int .i64 t6660.2]])
        refine od rfl rfl rfl rfl (does_callk rfl callok20 rfl (spec_l1Pick.calls (x0 := (⟨x0.fCode, t6660.2⟩ : l1Src)) (x1 := ([(-1), 999, 1000] : List Int)) (hide_olds _ _) hF6734 hFn6735 hFl6736 (HMh6737.rdo hwo hp0_0) (HMh6737.own_rd 0 rfl) h6732)) ?_
        rintro _ w6740 ⟨rfl, hn⟩
        replace HM : Mem w X w6740 [box b0 70 [p0_0, .int .i64 t6731.2], own kInt 2 v6728 ([(-1), 999, 1000] : List Int), box b6654 42 [u6646, .int .i64 t6644.1.fNeed, .int .i64 t6644.1.fAfter], own kInt 2 u6646 t6644.1.fKeys, box b6640 42 [.slice none 0 0, .int .i64 0, .int .i64 0]] := hcl6738 _ _ hn
        refine ox rfl rfl rfl rfl (ex_fieldAddr (off' := 2) rfl rfl Tryz.underlying42 rfl tsz2 rfl) ?_
        replace HM := HM.front 2 rfl rfl
        refine odS rfl rfl rfl (does_store (vs := [.int .i64 t6731.1]) (cs' := [u6646, .int .i64 t6644.1.fNeed, .int .i64 t6731.1]) rfl rfl rfl rfl tsz2 (Ones.int Ones.nil) rfl rfl HM) ?_
        rintro w6741 HM
        refine ops_nil ?_
        refine at_block ?_
        refine at_then ?_
        refine run_seq ?_
        refine run_region rfl ?_
        refine ox rfl rfl rfl rfl (ex_loadN (cs := [u6646, (.int .i64 t6644.1.fNeed), (.int .i64 t6731.1)]) rfl rfl Tryz.underlying42 rfl tsz42 rfl ((HM.box_at 0 rfl).sub 0 3 rfl)) ?_
        replace HM := HM.front 4 rfl rfl
        refine odS rfl rfl rfl (does_store (vs := [u6646, .int .i64 t6644.1.fNeed, .int .i64 t6731.1]) (cs' := [u6646, .int .i64 t6644.1.fNeed, .int .i64 t6731.1]) rfl rfl rfl rfl tsz42 (Ones.rd (HM.own_rd 4 rfl) (Ones.int (Ones.int Ones.nil))) rfl rfl HM) ?_
        rintro w6742 HM
        refine ops_nil (at_then ?_)
        refine run_ret ?_
        replace HM := (HM.front 1 rfl rfl).drop
        replace HM := (HM.front 2 rfl rfl).drop
        replace HM := HM.front 1 rfl rfl
        replace HM := HM.front 2 rfl rfl
        replace HM := HM.front 2 rfl rfl
        have hcb0 := HM.box_at 0 rfl
        replace HM := (HM.front 0 rfl rfl).drop
        have hR := Option.some.inj H
        subst hR
        exact at_retN rfl rfl Tryz.underlying42 rfl tsz42 rfl hcb0 ⟨_, rfl, _, rfl, HM⟩
      · replace H := cond_f hb6727 H
        refine run_seq ?_
        refine run_region rfl ?_
        refine ox rfl rfl rfl rfl (ex_eql rfl rfl rfl) ?_
        refine ox rfl rfl rfl rfl (ex_assign rfl rfl) ?_
        refine ops_nil (at_then ?_)
        refine run_cond (b := (t6660.1 == 3)) rfl (fun hb6743 => ?_) (fun hb6743 => ?_)
        · replace H := cond_t hb6743 H
          refine run_region rfl ?_
          refine ox rfl rfl rfl rfl (ex_fieldAddr (off' := 0) rfl rfl Tryz.underlying42 rfl tsz40 rfl) ?_
          replace HM := HM.front 1 rfl rfl
          refine odS rfl rfl rfl (does_store (vs := [.slice none 0 0]) (cs' := [.slice none 0 0, .int .i64 t6644.1.fNeed, .int .i64 t6644.1.fAfter]) rfl rfl rfl rfl tsz40 (Ones.sl Ones.nil) rfl rfl HM) ?_
          rintro w6744 HM
          refine ops_nil ?_
          refine at_block ?_
          refine at_then ?_
          refine run_seq ?_
          refine run_region rfl ?_
          refine ox rfl rfl rfl rfl (ex_loadN (cs := [(.slice none 0 0), (.int .i64 t6644.1.fNeed), (.int .i64 t6644.1.fAfter)]) rfl rfl Tryz.underlying42 rfl tsz42 rfl ((HM.box_at 0 rfl).sub 0 3 rfl)) ?_
          replace HM := HM.front 3 rfl rfl
          refine odS rfl rfl rfl (does_store (vs := [.slice none 0 0, .int .i64 t6644.1.fNeed, .int .i64 t6644.1.fAfter]) (cs' := [.slice none 0 0, .int .i64 t6644.1.fNeed, .int .i64 t6644.1.fAfter]) rfl rfl rfl rfl tsz42 (Ones.sl (Ones.int (Ones.int Ones.nil))) rfl rfl HM) ?_
          rintro w6745 HM
          refine ops_nil (at_then ?_)
          refine run_ret ?_
          replace HM := HM.empty kInt 2 none
          replace HM := (HM.front 2 rfl rfl).drop
          replace HM := (HM.front 3 rfl rfl).drop
          replace HM := HM.front 2 rfl rfl
          replace HM := HM.front 1 rfl rfl
          replace HM := HM.front 2 rfl rfl
          have hcb0 := HM.box_at 0 rfl
          replace HM := (HM.front 0 rfl rfl).drop
          have hR := Option.some.inj H
          subst hR
          exact at_retN rfl rfl Tryz.underlying42 rfl tsz42 rfl hcb0 ⟨_, rfl, _, rfl, HM⟩
        · replace H := cond_f hb6743 H
          refine run_skip ?_
          refine at_block ?_
          refine at_then ?_
          refine run_seq ?_
          refine run_region rfl ?_
          refine ox rfl rfl rfl rfl (ex_loadN (cs := [u6646, (.int .i64 t6644.1.fNeed), (.int .i64 t6644.1.fAfter)]) rfl rfl Tryz.underlying42 rfl tsz42 rfl ((HM.box_at 1 rfl).sub 0 3 rfl)) ?_
          replace HM := HM.front 3 rfl rfl
          refine odS rfl rfl rfl (does_store (vs := [u6646, .int .i64 t6644.1.fNeed, .int .i64 t6644.1.fAfter]) (cs' := [u6646, .int .i64 t6644.1.fNeed, .int .i64 t6644.1.fAfter]) rfl rfl rfl rfl tsz42 (Ones.rd (HM.own_rd 3 rfl) (Ones.int (Ones.int Ones.nil))) rfl rfl HM) ?_
          rintro w6747 HM
          refine ops_nil (at_then ?_)
          refine run_ret ?_
          replace HM := (HM.front 2 rfl rfl).drop
          replace HM := HM.front 1 rfl rfl
          replace HM := HM.front 2 rfl rfl
          replace HM := HM.front 2 rfl rfl
          have hcb0 := HM.box_at 0 rfl
          replace HM := (HM.front 0 rfl rfl).drop
          have hR := Option.some.inj H
          subst hR
          exact at_retN rfl rfl Tryz.underlying42 rfl tsz42 rfl hcb0 ⟨_, rfl, _, rfl, HM⟩

def spec_l3Bent.f (k : Nat) (x0 : l1Src) : Option (Tx × Int) := ((spec_l3Draw.f k x0).bind fun t6770 => ((spec_l1Next.f k (⟨x0.fCode, t6770.2⟩ : l1Src) 14).bind fun t6788 => (bif (t6788.1 == 0) then ((spec_l1Pick.f k (⟨x0.fCode, t6788.2⟩ : l1Src) ([(-1), 3, 0, 1] : List Int)).bind fun t6801 => some ((⟨t6801.1, t6770.1.fMember, t6770.1.fIns, t6770.1.fOuts⟩ : Tx), t6801.2)) else (bif (t6788.1 == 1) then ((spec_l1Pick.f k (⟨x0.fCode, t6788.2⟩ : l1Src) ([0, 1000, 5] : List Int)).bind fun t6817 => some ((⟨t6770.1.fKind, t6817.1, t6770.1.fIns, t6770.1.fOuts⟩ : Tx), t6817.2)) else (bif (t6788.1 == 2) then ((spec_l1Pick.f k (⟨x0.fCode, t6788.2⟩ : l1Src) ([0, 61, 1] : List Int)).bind fun t6833 => ((spec_l1Pick.f k (⟨x0.fCode, t6833.2⟩ : l1Src) ([0, 4] : List Int)).bind fun t6844 => (chk (leB ((t6770.1.fIns.length + ([(⟨t6833.1, t6844.1⟩ : Ref)] : List Ref).length) * 16) 140737488355328) (some ((⟨t6770.1.fKind, t6770.1.fMember, t6770.1.fIns ++ ([(⟨t6833.1, t6844.1⟩ : Ref)] : List Ref), t6770.1.fOuts⟩ : Tx), t6844.2))))) else (bif (t6788.1 == 3) then ((spec_l1Pick.f k (⟨x0.fCode, t6788.2⟩ : l1Src) ([0, 1, 1000001, 99] : List Int)).bind fun t6922 => (chk (idxOk (0 : Int) t6770.1.fOuts.length) (some ((⟨t6770.1.fKind, t6770.1.fMember, t6770.1.fIns, t6770.1.fOuts.set ((0 : Int)).toNat (⟨t6922.1, (gt t6770.1.fOuts (0 : Int)).fRule⟩ : Out)⟩ : Tx), t6922.2)))) else (bif (t6788.1 == 4) then ((spec_l2Bent.f k (⟨x0.fCode, t6788.2⟩ : l1Src)).bind fun t6936 => (chk (idxOk (0 : Int) t6770.1.fOuts.length) (some ((⟨t6770.1.fKind, t6770.1.fMember, t6770.1.fIns, t6770.1.fOuts.set ((0 : Int)).toNat (⟨(gt t6770.1.fOuts (0 : Int)).fValue, (⟨t6936.1.fKeys, t6936.1.fNeed, t6936.1.fAfter⟩ : Rule)⟩ : Out)⟩ : Tx), t6936.2)))) else (bif (t6788.1 == 5) then some ((⟨t6770.1.fKind, t6770.1.fMember, ([] : List Ref), t6770.1.fOuts⟩ : Tx), t6788.2) else (bif (t6788.1 == 6) then (chk (decide (0 ≤ (5 : Int))) (chk (leB (((5 : Int)).toNat * 48) 281474976710656) (some ((⟨t6770.1.fKind, t6770.1.fMember, t6770.1.fIns, List.replicate ((5 : Int)).toNat (⟨0, (⟨[], 0, 0⟩ : Rule)⟩ : Out)⟩ : Tx), t6788.2)))) else some ((⟨t6770.1.fKind, t6770.1.fMember, t6770.1.fIns, t6770.1.fOuts⟩ : Tx), t6788.2))))))))))
theorem spec_l3Bent.calls {k : Nat} {x0 : l1Src} {b0 : Nat} {p0_0 : Value} {w wo : World} {X : List Nat} (hwo : Olds wo w X) (hX : Hold w [box b0 70 [p0_0, .int .i64 x0.fAt]] X) (hXn : X.Nodup) (hXl : ∀ b ∈ X, b < w.heap.size) (hp0_0 : RdS kU8 wo p0_0 x0.fCode) {r : Tx × Int} (H : spec_l3Bent.f k x0 = some r) :
    Calls Tryz.prog 24 ([.pointer (some ⟨b0, 0, none⟩)] : List Value).toArray w (fun e w_ => ∃ v, e = .returned v ∧ ∃ u0 : Value, ∃ u1 : Value, v = (.agg #[.int .i64 r.1.fKind, .int .i64 r.1.fMember, u0, u1]) ∧ Mem w X w_ [own kRef 62 u0 r.1.fIns, own kOut 44 u1 r.1.fOuts, box b0 70 [p0_0, .int .i64 r.2]]) := by
  have HM := Mem.startX hX hXn hXl
  refine calls_run (N := 59) Tryz.func24 rfl rfl rfl rfl ?_
  unfold spec_l3Bent.f at H
  refine run_seq ?_
  refine run_region rfl ?_
  refine od rfl rfl rfl rfl (does_alloc (cs := [.int .i64 0, .int .i64 0, .slice none 0 0, .slice none 0 0]) rfl tz28 rfl HM) ?_
  rintro _ w6769 ⟨b6766, rfl, HM⟩
  refine ops_nil (at_then (run_seq ?_))
  obtain ⟨t6770, h6771, H⟩ := bind_some H
  refine run_region rfl ?_
  refine ox rfl rfl rfl rfl (ex_move rfl rfl) ?_
  replace HM := HM.front 1 rfl rfl
  obtain ⟨F6776, hF6777, hFn6778, hFl6779, HMh6780, hcl6781⟩ := HM.hide (Ms := [box b0 70 [p0_0, .int .i64 x0.fAt]])
  refine od rfl rfl rfl rfl (does_callk rfl callok17 rfl (spec_l3Draw.calls (x0 := x0) (hide_olds _ _) hF6777 hFn6778 hFl6779 (HMh6780.rdo hwo hp0_0) h6771)) ?_
  rintro _ w6785 ⟨u6772, u6774, rfl, hn⟩
  replace HM : Mem w X w6785 [own kRef 62 u6772 t6770.1.fIns, own kOut 44 u6774 t6770.1.fOuts, box b0 70 [p0_0, .int .i64 t6770.2], box b6766 28 [.int .i64 0, .int .i64 0, .slice none 0 0, .slice none 0 0]] := hcl6781 _ _ hn
  refine od rfl rfl rfl rfl (does_alloc (cs := [.int .i64 0, .int .i64 0, .slice none 0 0, .slice none 0 0]) rfl tz28 rfl HM) ?_
  rintro _ w6786 ⟨b6782, rfl, HM⟩
  refine odS rfl rfl rfl (does_store (vs := [.int .i64 t6770.1.fKind, .int .i64 t6770.1.fMember, u6772, u6774]) (cs' := [.int .i64 t6770.1.fKind, .int .i64 t6770.1.fMember, u6772, u6774]) rfl rfl rfl rfl tsz28 (Ones.int (Ones.int (Ones.rd (HM.own_rd 1 rfl) (Ones.rd (HM.own_rd 2 rfl) Ones.nil)))) rfl rfl HM) ?_
  rintro w6787 HM
  refine ops_nil (at_then (run_seq ?_))
  refine run_seq ?_
  obtain ⟨t6788, h6789, H⟩ := bind_some H
  refine run_region rfl ?_
  refine ox rfl rfl rfl rfl (ex_move rfl rfl) ?_
  replace HM := HM.front 3 rfl rfl
  obtain ⟨F6790, hF6791, hFn6792, hFl6793, HMh6794, hcl6795⟩ := HM.hide (Ms := [box b0 70 [p0_0, .int .i64 t6770.2]])
  refine od rfl rfl rfl rfl (does_callk rfl callok19 rfl (spec_l1Next.calls (x0 := (⟨x0.fCode, t6770.2⟩ : l1Src)) (x1 := 14) (hide_olds _ _) hF6791 hFn6792 hFl6793 (HMh6794.rdo hwo hp0_0) h6789)) ?_
  rintro _ w6796 ⟨rfl, hn⟩
  replace HM : Mem w X w6796 [box b0 70 [p0_0, .int .i64 t6788.2], box b6782 28 [.int .i64 t6770.1.fKind, .int .i64 t6770.1.fMember, u6772, u6774], own kRef 62 u6772 t6770.1.fIns, own kOut 44 u6774 t6770.1.fOuts, box b6766 28 [.int .i64 0, .int .i64 0, .slice none 0 0, .slice none 0 0]] := hcl6795 _ _ hn
  refine ops_nil (at_then ?_)
  refine run_block ?_
  refine run_seq ?_
  refine run_region rfl ?_
  refine ox rfl rfl rfl rfl (ex_eql rfl rfl rfl) ?_
  refine ox rfl rfl rfl rfl (ex_assign rfl rfl) ?_
  refine ops_nil (at_then ?_)
  refine run_cond (b := (t6788.1 == 0)) rfl (fun hb6797 => ?_) (fun hb6797 => ?_)
  · replace H := cond_t hb6797 H
    obtain ⟨t6801, h6802, H⟩ := bind_some H
    refine run_region rfl ?_
    refine ox rfl rfl rfl rfl (ex_move rfl rfl) ?_
    refine od rfl rfl rfl rfl (does_lit (e := 2) (cs := [.int .i64 (-1), .int .i64 3, .int .i64 0, .int .i64 1]) (xs := ([(-1), 3, 0, 1] : List Int)) kInt rfl rfl (fun _ => by kernel_rfl) rfl rfl (fun _ _ h => by have h' : _ = [] := h; subst h'; exact (Elems.cons (d := kInt) (x := (-1)) (f := []) ⟨rfl, rfl⟩ (Elems.cons (d := kInt) (x := 3) (f := []) ⟨rfl, rfl⟩ (Elems.cons (d := kInt) (x := 0) (f := []) ⟨rfl, rfl⟩ (Elems.cons (d := kInt) (x := 1) (f := []) ⟨rfl, rfl⟩ .nil))))) HM.emp) ?_
    rintro v6798 w6809 HM
    replace HM := HM.front 1 rfl rfl
    obtain ⟨F6803, hF6804, hFn6805, hFl6806, HMh6807, hcl6808⟩ := HM.hide (Ms := [box b0 70 [p0_0, .int .i64 t6788.2]])
    refine od rfl rfl rfl rfl (does_callk rfl callok20 rfl (spec_l1Pick.calls (x0 := (⟨x0.fCode, t6788.2⟩ : l1Src)) (x1 := ([(-1), 3, 0, 1] : List Int)) (hide_olds _ _) hF6804 hFn6805 hFl6806 (HMh6807.rdo hwo hp0_0) (HMh6807.own_rd 0 rfl) h6802)) ?_
    rintro _ w6810 ⟨rfl, hn⟩
    replace HM : Mem w X w6810 [box b0 70 [p0_0, .int .i64 t6801.2], own kInt 2 v6798 ([(-1), 3, 0, 1] : List Int), box b6782 28 [.int .i64 t6770.1.fKind, .int .i64 t6770.1.fMember, u6772, u6774], own kRef 62 u6772 t6770.1.fIns, own kOut 44 u6774 t6770.1.fOuts, box b6766 28 [.int .i64 0, .int .i64 0, .slice none 0 0, .slice none 0 0]] := hcl6808 _ _ hn
    refine ox rfl rfl rfl rfl (ex_fieldAddr (off' := 0) rfl rfl Tryz.underlying28 rfl tsz2 rfl) ?_
    replace HM := HM.front 2 rfl rfl
    refine odS rfl rfl rfl (does_store (vs := [.int .i64 t6801.1]) (cs' := [.int .i64 t6801.1, .int .i64 t6770.1.fMember, u6772, u6774]) rfl rfl rfl rfl tsz2 (Ones.int Ones.nil) rfl rfl HM) ?_
    rintro w6811 HM
    refine ops_nil ?_
    refine at_block ?_
    refine at_then ?_
    refine run_seq ?_
    refine run_region rfl ?_
    refine ox rfl rfl rfl rfl (ex_loadN (cs := [(.int .i64 t6801.1), (.int .i64 t6770.1.fMember), u6772, u6774]) rfl rfl Tryz.underlying28 rfl tsz28 rfl ((HM.box_at 0 rfl).sub 0 4 rfl)) ?_
    replace HM := HM.front 5 rfl rfl
    refine odS rfl rfl rfl (does_store (vs := [.int .i64 t6801.1, .int .i64 t6770.1.fMember, u6772, u6774]) (cs' := [.int .i64 t6801.1, .int .i64 t6770.1.fMember, u6772, u6774]) rfl rfl rfl rfl tsz28 (Ones.int (Ones.int (Ones.rd (HM.own_rd 4 rfl) (Ones.rd (HM.own_rd 5 rfl) Ones.nil)))) rfl rfl HM) ?_
    rintro w6812 HM
    refine ops_nil (at_then ?_)
    refine run_ret ?_
    replace HM := (HM.front 1 rfl rfl).drop
    replace HM := (HM.front 2 rfl rfl).drop
    replace HM := HM.front 1 rfl rfl
    replace HM := HM.front 3 rfl rfl
    replace HM := HM.front 3 rfl rfl
    replace HM := HM.front 3 rfl rfl
    have hcb0 := HM.box_at 0 rfl
    replace HM := (HM.front 0 rfl rfl).drop
    have hR := Option.some.inj H
    subst hR
    exact at_retN rfl rfl Tryz.underlying28 rfl tsz28 rfl hcb0 ⟨_, rfl, _, _, rfl, HM⟩
  · replace H := cond_f hb6797 H
    refine run_seq ?_
    refine run_region rfl ?_
    refine ox rfl rfl rfl rfl (ex_eql rfl rfl rfl) ?_
    refine ox rfl rfl rfl rfl (ex_assign rfl rfl) ?_
    refine ops_nil (at_then ?_)
    refine run_cond (b := (t6788.1 == 1)) rfl (fun hb6813 => ?_) (fun hb6813 => ?_)
    · replace H := cond_t hb6813 H
      obtain ⟨t6817, h6818, H⟩ := bind_some H
      refine run_region rfl ?_
      refine ox rfl rfl rfl rfl (ex_move rfl rfl) ?_
      refine od rfl rfl rfl rfl (does_lit (e := 2) (cs := [.int .i64 0, .int .i64 1000, .int .i64 5]) (xs := ([0, 1000, 5] : List Int)) kInt rfl rfl (fun _ => by kernel_rfl) rfl rfl (fun _ _ h => by have h' : _ = [] := h; subst h'; exact (Elems.cons (d := kInt) (x := 0) (f := []) ⟨rfl, rfl⟩ (Elems.cons (d := kInt) (x := 1000) (f := []) ⟨rfl, rfl⟩ (Elems.cons (d := kInt) (x := 5) (f := []) ⟨rfl, rfl⟩ .nil)))) HM.emp) ?_
      rintro v6814 w6825 HM
      replace HM := HM.front 1 rfl rfl
      obtain ⟨F6819, hF6820, hFn6821, hFl6822, HMh6823, hcl6824⟩ := HM.hide (Ms := [box b0 70 [p0_0, .int .i64 t6788.2]])
      refine od rfl rfl rfl rfl (does_callk rfl callok20 rfl (spec_l1Pick.calls (x0 := (⟨x0.fCode, t6788.2⟩ : l1Src)) (x1 := ([0, 1000, 5] : List Int)) (hide_olds _ _) hF6820 hFn6821 hFl6822 (HMh6823.rdo hwo hp0_0) (HMh6823.own_rd 0 rfl) h6818)) ?_
      rintro _ w6826 ⟨rfl, hn⟩
      replace HM : Mem w X w6826 [box b0 70 [p0_0, .int .i64 t6817.2], own kInt 2 v6814 ([0, 1000, 5] : List Int), box b6782 28 [.int .i64 t6770.1.fKind, .int .i64 t6770.1.fMember, u6772, u6774], own kRef 62 u6772 t6770.1.fIns, own kOut 44 u6774 t6770.1.fOuts, box b6766 28 [.int .i64 0, .int .i64 0, .slice none 0 0, .slice none 0 0]] := hcl6824 _ _ hn
      refine ox rfl rfl rfl rfl (ex_fieldAddr (off' := 1) rfl rfl Tryz.underlying28 rfl tsz2 rfl) ?_
      replace HM := HM.front 2 rfl rfl
      refine odS rfl rfl rfl (does_store (vs := [.int .i64 t6817.1]) (cs' := [.int .i64 t6770.1.fKind, .int .i64 t6817.1, u6772, u6774]) rfl rfl rfl rfl tsz2 (Ones.int Ones.nil) rfl rfl HM) ?_
      rintro w6827 HM
      refine ops_nil ?_
      refine at_block ?_
      refine at_then ?_
      refine run_seq ?_
      refine run_region rfl ?_
      refine ox rfl rfl rfl rfl (ex_loadN (cs := [(.int .i64 t6770.1.fKind), (.int .i64 t6817.1), u6772, u6774]) rfl rfl Tryz.underlying28 rfl tsz28 rfl ((HM.box_at 0 rfl).sub 0 4 rfl)) ?_
      replace HM := HM.front 5 rfl rfl
      refine odS rfl rfl rfl (does_store (vs := [.int .i64 t6770.1.fKind, .int .i64 t6817.1, u6772, u6774]) (cs' := [.int .i64 t6770.1.fKind, .int .i64 t6817.1, u6772, u6774]) rfl rfl rfl rfl tsz28 (Ones.int (Ones.int (Ones.rd (HM.own_rd 4 rfl) (Ones.rd (HM.own_rd 5 rfl) Ones.nil)))) rfl rfl HM) ?_
      rintro w6828 HM
      refine ops_nil (at_then ?_)
      refine run_ret ?_
      replace HM := (HM.front 1 rfl rfl).drop
      replace HM := (HM.front 2 rfl rfl).drop
      replace HM := HM.front 1 rfl rfl
      replace HM := HM.front 3 rfl rfl
      replace HM := HM.front 3 rfl rfl
      replace HM := HM.front 3 rfl rfl
      have hcb0 := HM.box_at 0 rfl
      replace HM := (HM.front 0 rfl rfl).drop
      have hR := Option.some.inj H
      subst hR
      exact at_retN rfl rfl Tryz.underlying28 rfl tsz28 rfl hcb0 ⟨_, rfl, _, _, rfl, HM⟩
    · replace H := cond_f hb6813 H
      refine run_seq ?_
      refine run_region rfl ?_
      refine ox rfl rfl rfl rfl (ex_eql rfl rfl rfl) ?_
      refine ox rfl rfl rfl rfl (ex_assign rfl rfl) ?_
      refine ops_nil (at_then ?_)
      refine run_cond (b := (t6788.1 == 2)) rfl (fun hb6829 => ?_) (fun hb6829 => ?_)
      · replace H := cond_t hb6829 H
        obtain ⟨t6833, h6834, H⟩ := bind_some H
        obtain ⟨t6844, h6845, H⟩ := bind_some H
        obtain ⟨e6855, H⟩ := chk_some H
        refine run_meet (fun ρ_ w_ => ∃ v6856 : Value, ρ_ = [(2, .pointer (some ⟨b6766, 0, none⟩)), (3, .pointer (some ⟨b6782, 0, none⟩))] ∧ Mem w X w_ [box b0 70 [p0_0, .int .i64 t6844.2], box b6766 28 [.int .i64 0, .int .i64 0, .slice none 0 0, .slice none 0 0], box b6782 28 [.int .i64 t6770.1.fKind, .int .i64 t6770.1.fMember, v6856, u6774], own kRef 62 v6856 (t6770.1.fIns ++ ([(⟨t6833.1, t6844.1⟩ : Ref)] : List Ref)), own kOut 44 u6774 t6770.1.fOuts]) ?_ ?_
        · skip
          replace HM := HM.front 2 rfl rfl
          replace HM := HM.front 2 rfl rfl
          replace HM := HM.front 2 rfl rfl
          refine run_draw (fun w_ => Mem w X w_ [own kOut 44 u6774 t6770.1.fOuts, box b6766 28 [.int .i64 0, .int .i64 0, .slice none 0 0, .slice none 0 0]]) mixed rfl (l := #[false, false, false, false, false, false, false, false, false, false, false, false, false]) rfl ?_
          replace HM := HM.grow (fr_drew _)
          have hS := Mem.suf (M := [box b0 70 [p0_0, .int .i64 t6788.2], box b6782 28 [.int .i64 t6770.1.fKind, .int .i64 t6770.1.fMember, u6772, u6774], own kRef 62 u6772 t6770.1.fIns]) HM
          refine drw_cut3 (l' := (bs 13 1023)) (f' := 3) (fun (v6830 : Value) => fun (v6841 : Value) => fun (v6852 : Value) => [(2, .pointer (some ⟨b6766, 0, none⟩)), (3, .pointer (some ⟨b6782, 0, none⟩)), (23, u6772), (31, v6852)]) (fun (v6830 : Value) => fun (v6841 : Value) => fun (v6852 : Value) => fun w_ => Mem w X w_ [own kRef 62 v6852 ([(⟨t6833.1, t6844.1⟩ : Ref)] : List Ref), box b0 70 [p0_0, .int .i64 t6844.2], own kInt 2 v6841 ([0, 4] : List Int), own kInt 2 v6830 ([0, 61, 1] : List Int), box b6782 28 [.int .i64 t6770.1.fKind, .int .i64 t6770.1.fMember, u6772, u6774], own kRef 62 u6772 t6770.1.fIns, own kOut 44 u6774 t6770.1.fOuts, box b6766 28 [.int .i64 0, .int .i64 0, .slice none 0 0, .slice none 0 0]]) ?_ (fun K6878 => ?_)
          · rintro v6830 v6841 v6852 w6879 HM
            replace HM : Mem w X w6879 [own kRef 62 v6852 ([(⟨t6833.1, t6844.1⟩ : Ref)] : List Ref), box b0 70 [p0_0, .int .i64 t6844.2], own kInt 2 v6841 ([0, 4] : List Int), own kInt 2 v6830 ([0, 61, 1] : List Int), box b6782 28 [.int .i64 t6770.1.fKind, .int .i64 t6770.1.fMember, u6772, u6774], own kRef 62 u6772 t6770.1.fIns, own kOut 44 u6774 t6770.1.fOuts, box b6766 28 [.int .i64 0, .int .i64 0, .slice none 0 0, .slice none 0 0]] := HM
            have hS := Mem.suf (M := [own kRef 62 v6852 ([(⟨t6833.1, t6844.1⟩ : Ref)] : List Ref), box b0 70 [p0_0, .int .i64 t6844.2], own kInt 2 v6841 ([0, 4] : List Int), own kInt 2 v6830 ([0, 61, 1] : List Int), box b6782 28 [.int .i64 t6770.1.fKind, .int .i64 t6770.1.fMember, u6772, u6774], own kRef 62 u6772 t6770.1.fIns]) HM
            replace HM := HM.front 5 rfl rfl
            refine drw_any [10] (by kernel_rfl) rfl (.cons ?_ .nil)
            refine br_does (l' := (bs 13 2047)) rfl (guard_none rfl) rfl rfl (by kernel_rfl) (does_appendR kRef flat_plain rfl rfl rfl Tryz.underlying25 tsz62 rfl tby62 tz62 rfl rfl (leB_le e6855) (HM.own_rd 1 rfl) HM) ?_
            rintro v6856 w6880 HM
            have hS := Mem.suf (M := [own kRef 62 v6856 (t6770.1.fIns ++ ([(⟨t6833.1, t6844.1⟩ : Ref)] : List Ref)), own kRef 62 v6852 ([(⟨t6833.1, t6844.1⟩ : Ref)] : List Ref), box b0 70 [p0_0, .int .i64 t6844.2], own kInt 2 v6841 ([0, 4] : List Int), own kInt 2 v6830 ([0, 61, 1] : List Int), box b6782 28 [.int .i64 t6770.1.fKind, .int .i64 t6770.1.fMember, u6772, u6774]]) HM
            refine ⟨hS, ?_⟩
            refine dt 11 (bs 13 4095) rfl rfl rfl rfl (by kernel_rfl) (ex_fieldAddr (off' := 2) rfl rfl Tryz.underlying28 rfl tsz25 rfl) hS ?_
            replace HM := HM.front 5 rfl rfl
            refine drw_any [12] (by kernel_rfl) rfl (.cons ?_ .nil)
            refine br_doesS (l' := (bs 13 8191)) rfl (guard_none rfl) rfl (by kernel_rfl) (does_store (vs := [v6856]) (cs' := [.int .i64 t6770.1.fKind, .int .i64 t6770.1.fMember, v6856, u6774]) rfl rfl rfl (rd_cells (HM.own_rd 1 rfl)) tsz25 (Ones.rd (HM.own_rd 1 rfl) Ones.nil) rfl rfl HM) ?_
            rintro w6881 HM
            have hS := Mem.suf (M := [box b6782 28 [.int .i64 t6770.1.fKind, .int .i64 t6770.1.fMember, v6856, u6774], own kRef 62 v6856 (t6770.1.fIns ++ ([(⟨t6833.1, t6844.1⟩ : Ref)] : List Ref)), own kRef 62 v6852 ([(⟨t6833.1, t6844.1⟩ : Ref)] : List Ref), box b0 70 [p0_0, .int .i64 t6844.2], own kInt 2 v6841 ([0, 4] : List Int), own kInt 2 v6830 ([0, 61, 1] : List Int)]) HM
            refine ⟨hS, ?_⟩
            refine drw_done (by kernel_rfl) ?_
            replace HM := (HM.front 2 rfl rfl).drop
            replace HM := (HM.front 3 rfl rfl).drop
            replace HM := (HM.front 3 rfl rfl).drop
            replace HM := HM.front 3 rfl rfl
            replace HM := HM.front 2 rfl rfl
            replace HM := HM.front 2 rfl rfl
            replace HM := HM.front 4 rfl rfl
            replace HM := HM.front 4 rfl rfl
            exact at_meet [(2, .pointer (some ⟨b6766, 0, none⟩)), (3, .pointer (some ⟨b6782, 0, none⟩))] ⟨_, rfl, HM⟩ (Sub.cons rfl (Sub.cons rfl Sub.nil))
          refine drw_cut2 (l' := (bs 13 511)) (f' := 4) (fun (v6830 : Value) => fun (v6841 : Value) => [(2, .pointer (some ⟨b6766, 0, none⟩)), (3, .pointer (some ⟨b6782, 0, none⟩)), (23, u6772), (30, .agg #[(.int .i64 t6833.1), (.int .i64 t6844.1)])]) (fun (v6830 : Value) => fun (v6841 : Value) => fun w_ => Mem w X w_ [box b0 70 [p0_0, .int .i64 t6844.2], own kInt 2 v6841 ([0, 4] : List Int), own kInt 2 v6830 ([0, 61, 1] : List Int), box b6782 28 [.int .i64 t6770.1.fKind, .int .i64 t6770.1.fMember, u6772, u6774], own kRef 62 u6772 t6770.1.fIns, own kOut 44 u6774 t6770.1.fOuts, box b6766 28 [.int .i64 0, .int .i64 0, .slice none 0 0, .slice none 0 0]]) ?_ (fun K6882 => ?_)
          · rintro v6830 v6841 w6883 HM
            replace HM : Mem w X w6883 [box b0 70 [p0_0, .int .i64 t6844.2], own kInt 2 v6841 ([0, 4] : List Int), own kInt 2 v6830 ([0, 61, 1] : List Int), box b6782 28 [.int .i64 t6770.1.fKind, .int .i64 t6770.1.fMember, u6772, u6774], own kRef 62 u6772 t6770.1.fIns, own kOut 44 u6774 t6770.1.fOuts, box b6766 28 [.int .i64 0, .int .i64 0, .slice none 0 0, .slice none 0 0]] := HM
            have hS := Mem.suf (M := [box b0 70 [p0_0, .int .i64 t6844.2], own kInt 2 v6841 ([0, 4] : List Int), own kInt 2 v6830 ([0, 61, 1] : List Int), box b6782 28 [.int .i64 t6770.1.fKind, .int .i64 t6770.1.fMember, u6772, u6774], own kRef 62 u6772 t6770.1.fIns]) HM
            refine drw_any [9] (by kernel_rfl) rfl (.cons ?_ .nil)
            refine br_does (l' := (bs 13 1023)) rfl (guard_none rfl) rfl rfl (by kernel_rfl) (does_lit (e := 62) (cs := [.int .i64 t6833.1, .int .i64 t6844.1]) (xs := ([(⟨t6833.1, t6844.1⟩ : Ref)] : List Ref)) kRef rfl rfl (fun _ => by kernel_rfl) rfl rfl (fun _ _ h => by have h' : _ = [] := h; subst h'; exact (Elems.cons (d := kRef) (x := (⟨t6833.1, t6844.1⟩ : Ref)) (f := []) ⟨rfl, rfl⟩ .nil)) HM.emp) ?_
            rintro v6852 w6884 HM
            have hS := Mem.suf (M := [own kRef 62 v6852 ([(⟨t6833.1, t6844.1⟩ : Ref)] : List Ref), box b0 70 [p0_0, .int .i64 t6844.2], own kInt 2 v6841 ([0, 4] : List Int), own kInt 2 v6830 ([0, 61, 1] : List Int), box b6782 28 [.int .i64 t6770.1.fKind, .int .i64 t6770.1.fMember, u6772, u6774], own kRef 62 u6772 t6770.1.fIns]) HM
            refine ⟨hS, ?_⟩
            exact drw_sub (K6878 v6830 v6841 v6852 _ HM) (Sub.cons rfl (Sub.cons rfl (Sub.cons rfl (Sub.cons rfl Sub.nil))))
          refine drw_cut2 (l' := (bs 13 127)) (f' := 6) (fun (v6830 : Value) => fun (v6841 : Value) => [(2, .pointer (some ⟨b6766, 0, none⟩)), (3, .pointer (some ⟨b6782, 0, none⟩)), (27, .pointer (some ⟨b0, 0, none⟩)), (23, u6772), (26, .int .i64 t6833.1), (28, v6841)]) (fun (v6830 : Value) => fun (v6841 : Value) => fun w_ => Mem w X w_ [own kInt 2 v6841 ([0, 4] : List Int), box b0 70 [p0_0, .int .i64 t6833.2], own kInt 2 v6830 ([0, 61, 1] : List Int), box b6782 28 [.int .i64 t6770.1.fKind, .int .i64 t6770.1.fMember, u6772, u6774], own kRef 62 u6772 t6770.1.fIns, own kOut 44 u6774 t6770.1.fOuts, box b6766 28 [.int .i64 0, .int .i64 0, .slice none 0 0, .slice none 0 0]]) ?_ (fun K6885 => ?_)
          · rintro v6830 v6841 w6886 HM
            replace HM : Mem w X w6886 [own kInt 2 v6841 ([0, 4] : List Int), box b0 70 [p0_0, .int .i64 t6833.2], own kInt 2 v6830 ([0, 61, 1] : List Int), box b6782 28 [.int .i64 t6770.1.fKind, .int .i64 t6770.1.fMember, u6772, u6774], own kRef 62 u6772 t6770.1.fIns, own kOut 44 u6774 t6770.1.fOuts, box b6766 28 [.int .i64 0, .int .i64 0, .slice none 0 0, .slice none 0 0]] := HM
            have hS := Mem.suf (M := [own kInt 2 v6841 ([0, 4] : List Int), box b0 70 [p0_0, .int .i64 t6833.2], own kInt 2 v6830 ([0, 61, 1] : List Int), box b6782 28 [.int .i64 t6770.1.fKind, .int .i64 t6770.1.fMember, u6772, u6774], own kRef 62 u6772 t6770.1.fIns]) HM
            replace HM := HM.front 1 rfl rfl
            obtain ⟨F6846, hF6847, hFn6848, hFl6849, HMh6850, hcl6851⟩ := HM.hide (Ms := [box b0 70 [p0_0, .int .i64 t6833.2]])
            refine drw_any [7] (by kernel_rfl) rfl (.cons ?_ .nil)
            refine br_does (l' := (bs 13 255)) rfl (guard_none rfl) rfl rfl (by kernel_rfl) (does_callk rfl callok20 rfl (spec_l1Pick.calls (x0 := (⟨x0.fCode, t6833.2⟩ : l1Src)) (x1 := ([0, 4] : List Int)) (hide_olds _ _) hF6847 hFn6848 hFl6849 (HMh6850.rdo hwo hp0_0) (HMh6850.own_rd 0 rfl) h6845)) ?_
            rintro _ w6887 ⟨rfl, hn⟩
            replace HM : Mem w X w6887 [box b0 70 [p0_0, .int .i64 t6844.2], own kInt 2 v6841 ([0, 4] : List Int), own kInt 2 v6830 ([0, 61, 1] : List Int), box b6782 28 [.int .i64 t6770.1.fKind, .int .i64 t6770.1.fMember, u6772, u6774], own kRef 62 u6772 t6770.1.fIns, own kOut 44 u6774 t6770.1.fOuts, box b6766 28 [.int .i64 0, .int .i64 0, .slice none 0 0, .slice none 0 0]] := hcl6851 _ _ hn
            have hS := Mem.suf (M := [box b0 70 [p0_0, .int .i64 t6844.2], own kInt 2 v6841 ([0, 4] : List Int), own kInt 2 v6830 ([0, 61, 1] : List Int), box b6782 28 [.int .i64 t6770.1.fKind, .int .i64 t6770.1.fMember, u6772, u6774], own kRef 62 u6772 t6770.1.fIns]) HM
            refine ⟨hS, ?_⟩
            refine dt 8 (bs 13 511) rfl rfl rfl rfl (by kernel_rfl) (ex_build (cells := #[(.int .i64 t6833.1), (.int .i64 t6844.1)]) rfl rfl (by kernel_rfl)) hS ?_
            exact drw_sub (K6882 v6830 v6841 _ HM) (Sub.cons rfl (Sub.cons rfl (Sub.cons rfl (Sub.cons rfl Sub.nil))))
          refine drw_cut1 (l' := (bs 13 63)) (f' := 7) (fun (v6830 : Value) => [(2, .pointer (some ⟨b6766, 0, none⟩)), (3, .pointer (some ⟨b6782, 0, none⟩)), (27, .pointer (some ⟨b0, 0, none⟩)), (23, u6772), (26, .int .i64 t6833.1)]) (fun (v6830 : Value) => fun w_ => Mem w X w_ [box b0 70 [p0_0, .int .i64 t6833.2], own kInt 2 v6830 ([0, 61, 1] : List Int), box b6782 28 [.int .i64 t6770.1.fKind, .int .i64 t6770.1.fMember, u6772, u6774], own kRef 62 u6772 t6770.1.fIns, own kOut 44 u6774 t6770.1.fOuts, box b6766 28 [.int .i64 0, .int .i64 0, .slice none 0 0, .slice none 0 0]]) ?_ (fun K6888 => ?_)
          · rintro v6830 w6889 HM
            replace HM : Mem w X w6889 [box b0 70 [p0_0, .int .i64 t6833.2], own kInt 2 v6830 ([0, 61, 1] : List Int), box b6782 28 [.int .i64 t6770.1.fKind, .int .i64 t6770.1.fMember, u6772, u6774], own kRef 62 u6772 t6770.1.fIns, own kOut 44 u6774 t6770.1.fOuts, box b6766 28 [.int .i64 0, .int .i64 0, .slice none 0 0, .slice none 0 0]] := HM
            have hS := Mem.suf (M := [box b0 70 [p0_0, .int .i64 t6833.2], own kInt 2 v6830 ([0, 61, 1] : List Int), box b6782 28 [.int .i64 t6770.1.fKind, .int .i64 t6770.1.fMember, u6772, u6774], own kRef 62 u6772 t6770.1.fIns]) HM
            refine drw_any [6] (by kernel_rfl) rfl (.cons ?_ .nil)
            refine br_does (l' := (bs 13 127)) rfl (guard_none rfl) rfl rfl (by kernel_rfl) (does_lit (e := 2) (cs := [.int .i64 0, .int .i64 4]) (xs := ([0, 4] : List Int)) kInt rfl rfl (fun _ => by kernel_rfl) rfl rfl (fun _ _ h => by have h' : _ = [] := h; subst h'; exact (Elems.cons (d := kInt) (x := 0) (f := []) ⟨rfl, rfl⟩ (Elems.cons (d := kInt) (x := 4) (f := []) ⟨rfl, rfl⟩ .nil))) HM.emp) ?_
            rintro v6841 w6890 HM
            have hS := Mem.suf (M := [own kInt 2 v6841 ([0, 4] : List Int), box b0 70 [p0_0, .int .i64 t6833.2], own kInt 2 v6830 ([0, 61, 1] : List Int), box b6782 28 [.int .i64 t6770.1.fKind, .int .i64 t6770.1.fMember, u6772, u6774], own kRef 62 u6772 t6770.1.fIns]) HM
            refine ⟨hS, ?_⟩
            exact drw_sub (K6885 v6830 v6841 _ HM) (Sub.cons rfl (Sub.cons rfl (Sub.cons rfl (Sub.cons rfl (Sub.cons rfl (Sub.cons rfl Sub.nil))))))
          refine drw_cut2 (l' := (bs 13 111)) (f' := 7) (fun (v6830 : Value) => fun (v6841 : Value) => [(2, .pointer (some ⟨b6766, 0, none⟩)), (3, .pointer (some ⟨b6782, 0, none⟩)), (24, .pointer (some ⟨b0, 0, none⟩)), (27, .pointer (some ⟨b0, 0, none⟩)), (23, u6772), (25, v6830), (28, v6841)]) (fun (v6830 : Value) => fun (v6841 : Value) => fun w_ => Mem w X w_ [own kInt 2 v6841 ([0, 4] : List Int), own kInt 2 v6830 ([0, 61, 1] : List Int), box b0 70 [p0_0, .int .i64 t6788.2], box b6782 28 [.int .i64 t6770.1.fKind, .int .i64 t6770.1.fMember, u6772, u6774], own kRef 62 u6772 t6770.1.fIns, own kOut 44 u6774 t6770.1.fOuts, box b6766 28 [.int .i64 0, .int .i64 0, .slice none 0 0, .slice none 0 0]]) ?_ (fun K6891 => ?_)
          · rintro v6830 v6841 w6892 HM
            replace HM : Mem w X w6892 [own kInt 2 v6841 ([0, 4] : List Int), own kInt 2 v6830 ([0, 61, 1] : List Int), box b0 70 [p0_0, .int .i64 t6788.2], box b6782 28 [.int .i64 t6770.1.fKind, .int .i64 t6770.1.fMember, u6772, u6774], own kRef 62 u6772 t6770.1.fIns, own kOut 44 u6774 t6770.1.fOuts, box b6766 28 [.int .i64 0, .int .i64 0, .slice none 0 0, .slice none 0 0]] := HM
            have hS := Mem.suf (M := [own kInt 2 v6841 ([0, 4] : List Int), own kInt 2 v6830 ([0, 61, 1] : List Int), box b0 70 [p0_0, .int .i64 t6788.2], box b6782 28 [.int .i64 t6770.1.fKind, .int .i64 t6770.1.fMember, u6772, u6774], own kRef 62 u6772 t6770.1.fIns]) HM
            replace HM := HM.front 2 rfl rfl
            obtain ⟨F6835, hF6836, hFn6837, hFl6838, HMh6839, hcl6840⟩ := HM.hide (Ms := [box b0 70 [p0_0, .int .i64 t6788.2]])
            refine drw_any [4] (by kernel_rfl) rfl (.cons ?_ .nil)
            refine br_does (l' := (bs 13 127)) rfl (guard_none rfl) rfl rfl (by kernel_rfl) (does_callk rfl callok20 rfl (spec_l1Pick.calls (x0 := (⟨x0.fCode, t6788.2⟩ : l1Src)) (x1 := ([0, 61, 1] : List Int)) (hide_olds _ _) hF6836 hFn6837 hFl6838 (HMh6839.rdo hwo hp0_0) (HMh6839.own_rd 1 rfl) h6834)) ?_
            rintro _ w6893 ⟨rfl, hn⟩
            replace HM : Mem w X w6893 [box b0 70 [p0_0, .int .i64 t6833.2], own kInt 2 v6841 ([0, 4] : List Int), own kInt 2 v6830 ([0, 61, 1] : List Int), box b6782 28 [.int .i64 t6770.1.fKind, .int .i64 t6770.1.fMember, u6772, u6774], own kRef 62 u6772 t6770.1.fIns, own kOut 44 u6774 t6770.1.fOuts, box b6766 28 [.int .i64 0, .int .i64 0, .slice none 0 0, .slice none 0 0]] := hcl6840 _ _ hn
            have hS := Mem.suf (M := [box b0 70 [p0_0, .int .i64 t6833.2], own kInt 2 v6841 ([0, 4] : List Int), own kInt 2 v6830 ([0, 61, 1] : List Int), box b6782 28 [.int .i64 t6770.1.fKind, .int .i64 t6770.1.fMember, u6772, u6774], own kRef 62 u6772 t6770.1.fIns]) HM
            refine ⟨hS, ?_⟩
            replace HM := HM.front 6 rfl rfl
            replace HM := HM.front 6 rfl rfl
            replace HM := HM.front 6 rfl rfl
            replace HM := HM.front 6 rfl rfl
            replace HM := HM.front 6 rfl rfl
            replace HM := HM.front 5 rfl rfl
            replace HM := HM.front 6 rfl rfl
            exact drw_sub (K6885 v6830 v6841 _ HM) (Sub.cons rfl (Sub.cons rfl (Sub.cons rfl (Sub.cons rfl (Sub.cons rfl (Sub.cons rfl Sub.nil))))))
          refine drw_cut2 (l' := (bs 13 125)) (f' := 7) (fun (v6830 : Value) => fun (v6841 : Value) => [(2, .pointer (some ⟨b6766, 0, none⟩)), (3, .pointer (some ⟨b6782, 0, none⟩)), (22, .pointer (some ⟨b6782, 2, none⟩)), (27, .pointer (some ⟨b0, 0, none⟩)), (26, .int .i64 t6833.1), (28, v6841)]) (fun (v6830 : Value) => fun (v6841 : Value) => fun w_ => Mem w X w_ [own kInt 2 v6841 ([0, 4] : List Int), box b0 70 [p0_0, .int .i64 t6833.2], own kInt 2 v6830 ([0, 61, 1] : List Int), box b6782 28 [.int .i64 t6770.1.fKind, .int .i64 t6770.1.fMember, u6772, u6774], own kRef 62 u6772 t6770.1.fIns, own kOut 44 u6774 t6770.1.fOuts, box b6766 28 [.int .i64 0, .int .i64 0, .slice none 0 0, .slice none 0 0]]) ?_ (fun K6894 => ?_)
          · rintro v6830 v6841 w6895 HM
            replace HM : Mem w X w6895 [own kInt 2 v6841 ([0, 4] : List Int), box b0 70 [p0_0, .int .i64 t6833.2], own kInt 2 v6830 ([0, 61, 1] : List Int), box b6782 28 [.int .i64 t6770.1.fKind, .int .i64 t6770.1.fMember, u6772, u6774], own kRef 62 u6772 t6770.1.fIns, own kOut 44 u6774 t6770.1.fOuts, box b6766 28 [.int .i64 0, .int .i64 0, .slice none 0 0, .slice none 0 0]] := HM
            have hS := Mem.suf (M := [own kInt 2 v6841 ([0, 4] : List Int), box b0 70 [p0_0, .int .i64 t6833.2], own kInt 2 v6830 ([0, 61, 1] : List Int), box b6782 28 [.int .i64 t6770.1.fKind, .int .i64 t6770.1.fMember, u6772, u6774], own kRef 62 u6772 t6770.1.fIns]) HM
            refine drw_any [1, 7] (by kernel_rfl) rfl (.cons ?_ (.cons ?_ .nil))
            · skip
              refine br_does (l' := (bs 13 127)) rfl (guard_none rfl) rfl rfl (by kernel_rfl) (does_ex' (ex_load1 rfl rfl Tryz.underlying25 rfl ((HM.box_at 3 rfl) 2 _ rfl))) ?_
              rintro _ _ ⟨rfl, rfl⟩
              refine ⟨hS, ?_⟩
              exact drw_sub (K6885 v6830 v6841 _ HM) (Sub.cons rfl (Sub.cons rfl (Sub.cons rfl (Sub.cons rfl (Sub.cons rfl (Sub.cons rfl Sub.nil))))))
            · skip
              replace HM := HM.front 1 rfl rfl
              obtain ⟨F6846, hF6847, hFn6848, hFl6849, HMh6850, hcl6851⟩ := HM.hide (Ms := [box b0 70 [p0_0, .int .i64 t6833.2]])
              refine br_does (l' := (bs 13 253)) rfl (guard_none rfl) rfl rfl (by kernel_rfl) (does_callk rfl callok20 rfl (spec_l1Pick.calls (x0 := (⟨x0.fCode, t6833.2⟩ : l1Src)) (x1 := ([0, 4] : List Int)) (hide_olds _ _) hF6847 hFn6848 hFl6849 (HMh6850.rdo hwo hp0_0) (HMh6850.own_rd 0 rfl) h6845)) ?_
              rintro _ w6896 ⟨rfl, hn⟩
              replace HM : Mem w X w6896 [box b0 70 [p0_0, .int .i64 t6844.2], own kInt 2 v6841 ([0, 4] : List Int), own kInt 2 v6830 ([0, 61, 1] : List Int), box b6782 28 [.int .i64 t6770.1.fKind, .int .i64 t6770.1.fMember, u6772, u6774], own kRef 62 u6772 t6770.1.fIns, own kOut 44 u6774 t6770.1.fOuts, box b6766 28 [.int .i64 0, .int .i64 0, .slice none 0 0, .slice none 0 0]] := hcl6851 _ _ hn
              have hS := Mem.suf (M := [box b0 70 [p0_0, .int .i64 t6844.2], own kInt 2 v6841 ([0, 4] : List Int), own kInt 2 v6830 ([0, 61, 1] : List Int), box b6782 28 [.int .i64 t6770.1.fKind, .int .i64 t6770.1.fMember, u6772, u6774], own kRef 62 u6772 t6770.1.fIns]) HM
              refine ⟨hS, ?_⟩
              refine dt 8 (bs 13 509) rfl rfl rfl rfl (by kernel_rfl) (ex_build (cells := #[(.int .i64 t6833.1), (.int .i64 t6844.1)]) rfl rfl (by kernel_rfl)) hS ?_
              refine drw_any [1, 9] (by kernel_rfl) rfl (.cons ?_ (.cons ?_ .nil))
              · skip
                refine br_does (l' := (bs 13 511)) rfl (guard_none rfl) rfl rfl (by kernel_rfl) (does_ex' (ex_load1 rfl rfl Tryz.underlying25 rfl ((HM.box_at 3 rfl) 2 _ rfl))) ?_
                rintro _ _ ⟨rfl, rfl⟩
                refine ⟨hS, ?_⟩
                exact drw_sub (K6882 v6830 v6841 _ HM) (Sub.cons rfl (Sub.cons rfl (Sub.cons rfl (Sub.cons rfl Sub.nil))))
              · skip
                refine br_does (l' := (bs 13 1021)) rfl (guard_none rfl) rfl rfl (by kernel_rfl) (does_lit (e := 62) (cs := [.int .i64 t6833.1, .int .i64 t6844.1]) (xs := ([(⟨t6833.1, t6844.1⟩ : Ref)] : List Ref)) kRef rfl rfl (fun _ => by kernel_rfl) rfl rfl (fun _ _ h => by have h' : _ = [] := h; subst h'; exact (Elems.cons (d := kRef) (x := (⟨t6833.1, t6844.1⟩ : Ref)) (f := []) ⟨rfl, rfl⟩ .nil)) HM.emp) ?_
                rintro v6852 w6897 HM
                have hS := Mem.suf (M := [own kRef 62 v6852 ([(⟨t6833.1, t6844.1⟩ : Ref)] : List Ref), box b0 70 [p0_0, .int .i64 t6844.2], own kInt 2 v6841 ([0, 4] : List Int), own kInt 2 v6830 ([0, 61, 1] : List Int), box b6782 28 [.int .i64 t6770.1.fKind, .int .i64 t6770.1.fMember, u6772, u6774], own kRef 62 u6772 t6770.1.fIns]) HM
                refine ⟨hS, ?_⟩
                refine drw_any [1] (by kernel_rfl) rfl (.cons ?_ .nil)
                refine br_does (l' := (bs 13 1023)) rfl (guard_none rfl) rfl rfl (by kernel_rfl) (does_ex' (ex_load1 rfl rfl Tryz.underlying25 rfl ((HM.box_at 4 rfl) 2 _ rfl))) ?_
                rintro _ _ ⟨rfl, rfl⟩
                refine ⟨hS, ?_⟩
                exact drw_sub (K6878 v6830 v6841 v6852 _ HM) (Sub.cons rfl (Sub.cons rfl (Sub.cons rfl (Sub.cons rfl Sub.nil))))
          refine drw_cut1 (l' := (bs 13 47)) (f' := 8) (fun (v6830 : Value) => [(2, .pointer (some ⟨b6766, 0, none⟩)), (3, .pointer (some ⟨b6782, 0, none⟩)), (24, .pointer (some ⟨b0, 0, none⟩)), (27, .pointer (some ⟨b0, 0, none⟩)), (23, u6772), (25, v6830)]) (fun (v6830 : Value) => fun w_ => Mem w X w_ [own kInt 2 v6830 ([0, 61, 1] : List Int), box b0 70 [p0_0, .int .i64 t6788.2], box b6782 28 [.int .i64 t6770.1.fKind, .int .i64 t6770.1.fMember, u6772, u6774], own kRef 62 u6772 t6770.1.fIns, own kOut 44 u6774 t6770.1.fOuts, box b6766 28 [.int .i64 0, .int .i64 0, .slice none 0 0, .slice none 0 0]]) ?_ (fun K6898 => ?_)
          · rintro v6830 w6899 HM
            replace HM : Mem w X w6899 [own kInt 2 v6830 ([0, 61, 1] : List Int), box b0 70 [p0_0, .int .i64 t6788.2], box b6782 28 [.int .i64 t6770.1.fKind, .int .i64 t6770.1.fMember, u6772, u6774], own kRef 62 u6772 t6770.1.fIns, own kOut 44 u6774 t6770.1.fOuts, box b6766 28 [.int .i64 0, .int .i64 0, .slice none 0 0, .slice none 0 0]] := HM
            have hS := Mem.suf (M := [own kInt 2 v6830 ([0, 61, 1] : List Int), box b0 70 [p0_0, .int .i64 t6788.2], box b6782 28 [.int .i64 t6770.1.fKind, .int .i64 t6770.1.fMember, u6772, u6774], own kRef 62 u6772 t6770.1.fIns]) HM
            refine drw_any [4, 6] (by kernel_rfl) rfl (.cons ?_ (.cons ?_ .nil))
            · skip
              replace HM := HM.front 1 rfl rfl
              obtain ⟨F6835, hF6836, hFn6837, hFl6838, HMh6839, hcl6840⟩ := HM.hide (Ms := [box b0 70 [p0_0, .int .i64 t6788.2]])
              refine br_does (l' := (bs 13 63)) rfl (guard_none rfl) rfl rfl (by kernel_rfl) (does_callk rfl callok20 rfl (spec_l1Pick.calls (x0 := (⟨x0.fCode, t6788.2⟩ : l1Src)) (x1 := ([0, 61, 1] : List Int)) (hide_olds _ _) hF6836 hFn6837 hFl6838 (HMh6839.rdo hwo hp0_0) (HMh6839.own_rd 0 rfl) h6834)) ?_
              rintro _ w6900 ⟨rfl, hn⟩
              replace HM : Mem w X w6900 [box b0 70 [p0_0, .int .i64 t6833.2], own kInt 2 v6830 ([0, 61, 1] : List Int), box b6782 28 [.int .i64 t6770.1.fKind, .int .i64 t6770.1.fMember, u6772, u6774], own kRef 62 u6772 t6770.1.fIns, own kOut 44 u6774 t6770.1.fOuts, box b6766 28 [.int .i64 0, .int .i64 0, .slice none 0 0, .slice none 0 0]] := hcl6840 _ _ hn
              have hS := Mem.suf (M := [box b0 70 [p0_0, .int .i64 t6833.2], own kInt 2 v6830 ([0, 61, 1] : List Int), box b6782 28 [.int .i64 t6770.1.fKind, .int .i64 t6770.1.fMember, u6772, u6774], own kRef 62 u6772 t6770.1.fIns]) HM
              refine ⟨hS, ?_⟩
              exact drw_sub (K6888 v6830 _ HM) (Sub.cons rfl (Sub.cons rfl (Sub.cons rfl (Sub.cons rfl (Sub.cons rfl Sub.nil)))))
            · skip
              refine br_does (l' := (bs 13 111)) rfl (guard_none rfl) rfl rfl (by kernel_rfl) (does_lit (e := 2) (cs := [.int .i64 0, .int .i64 4]) (xs := ([0, 4] : List Int)) kInt rfl rfl (fun _ => by kernel_rfl) rfl rfl (fun _ _ h => by have h' : _ = [] := h; subst h'; exact (Elems.cons (d := kInt) (x := 0) (f := []) ⟨rfl, rfl⟩ (Elems.cons (d := kInt) (x := 4) (f := []) ⟨rfl, rfl⟩ .nil))) HM.emp) ?_
              rintro v6841 w6901 HM
              have hS := Mem.suf (M := [own kInt 2 v6841 ([0, 4] : List Int), own kInt 2 v6830 ([0, 61, 1] : List Int), box b0 70 [p0_0, .int .i64 t6788.2], box b6782 28 [.int .i64 t6770.1.fKind, .int .i64 t6770.1.fMember, u6772, u6774], own kRef 62 u6772 t6770.1.fIns]) HM
              refine ⟨hS, ?_⟩
              exact drw_sub (K6891 v6830 v6841 _ HM) (Sub.cons rfl (Sub.cons rfl (Sub.cons rfl (Sub.cons rfl (Sub.cons rfl (Sub.cons rfl (Sub.cons rfl Sub.nil)))))))
          refine drw_cut1 (l' := (bs 13 103)) (f' := 8) (fun (v6841 : Value) => [(2, .pointer (some ⟨b6766, 0, none⟩)), (3, .pointer (some ⟨b6782, 0, none⟩)), (24, .pointer (some ⟨b0, 0, none⟩)), (27, .pointer (some ⟨b0, 0, none⟩)), (23, u6772), (28, v6841)]) (fun (v6841 : Value) => fun w_ => Mem w X w_ [own kInt 2 v6841 ([0, 4] : List Int), box b0 70 [p0_0, .int .i64 t6788.2], box b6782 28 [.int .i64 t6770.1.fKind, .int .i64 t6770.1.fMember, u6772, u6774], own kRef 62 u6772 t6770.1.fIns, own kOut 44 u6774 t6770.1.fOuts, box b6766 28 [.int .i64 0, .int .i64 0, .slice none 0 0, .slice none 0 0]]) ?_ (fun K6902 => ?_)
          · rintro v6841 w6903 HM
            replace HM : Mem w X w6903 [own kInt 2 v6841 ([0, 4] : List Int), box b0 70 [p0_0, .int .i64 t6788.2], box b6782 28 [.int .i64 t6770.1.fKind, .int .i64 t6770.1.fMember, u6772, u6774], own kRef 62 u6772 t6770.1.fIns, own kOut 44 u6774 t6770.1.fOuts, box b6766 28 [.int .i64 0, .int .i64 0, .slice none 0 0, .slice none 0 0]] := HM
            have hS := Mem.suf (M := [own kInt 2 v6841 ([0, 4] : List Int), box b0 70 [p0_0, .int .i64 t6788.2], box b6782 28 [.int .i64 t6770.1.fKind, .int .i64 t6770.1.fMember, u6772, u6774], own kRef 62 u6772 t6770.1.fIns]) HM
            refine drw_any [3] (by kernel_rfl) rfl (.cons ?_ .nil)
            refine br_does (l' := (bs 13 111)) rfl (guard_none rfl) rfl rfl (by kernel_rfl) (does_lit (e := 2) (cs := [.int .i64 0, .int .i64 61, .int .i64 1]) (xs := ([0, 61, 1] : List Int)) kInt rfl rfl (fun _ => by kernel_rfl) rfl rfl (fun _ _ h => by have h' : _ = [] := h; subst h'; exact (Elems.cons (d := kInt) (x := 0) (f := []) ⟨rfl, rfl⟩ (Elems.cons (d := kInt) (x := 61) (f := []) ⟨rfl, rfl⟩ (Elems.cons (d := kInt) (x := 1) (f := []) ⟨rfl, rfl⟩ .nil)))) HM.emp) ?_
            rintro v6830 w6904 HM
            have hS := Mem.suf (M := [own kInt 2 v6830 ([0, 61, 1] : List Int), own kInt 2 v6841 ([0, 4] : List Int), box b0 70 [p0_0, .int .i64 t6788.2], box b6782 28 [.int .i64 t6770.1.fKind, .int .i64 t6770.1.fMember, u6772, u6774], own kRef 62 u6772 t6770.1.fIns]) HM
            refine ⟨hS, ?_⟩
            replace HM := HM.front 6 rfl rfl
            replace HM := HM.front 6 rfl rfl
            replace HM := HM.front 6 rfl rfl
            replace HM := HM.front 6 rfl rfl
            replace HM := HM.front 6 rfl rfl
            replace HM := HM.front 5 rfl rfl
            replace HM := HM.front 6 rfl rfl
            exact drw_sub (K6891 v6830 v6841 _ HM) (Sub.cons rfl (Sub.cons rfl (Sub.cons rfl (Sub.cons rfl (Sub.cons rfl (Sub.cons rfl (Sub.cons rfl Sub.nil)))))))
          refine drw_cut2 (l' := (bs 13 109)) (f' := 8) (fun (v6830 : Value) => fun (v6841 : Value) => [(2, .pointer (some ⟨b6766, 0, none⟩)), (3, .pointer (some ⟨b6782, 0, none⟩)), (22, .pointer (some ⟨b6782, 2, none⟩)), (24, .pointer (some ⟨b0, 0, none⟩)), (27, .pointer (some ⟨b0, 0, none⟩)), (25, v6830), (28, v6841)]) (fun (v6830 : Value) => fun (v6841 : Value) => fun w_ => Mem w X w_ [own kInt 2 v6841 ([0, 4] : List Int), own kInt 2 v6830 ([0, 61, 1] : List Int), box b0 70 [p0_0, .int .i64 t6788.2], box b6782 28 [.int .i64 t6770.1.fKind, .int .i64 t6770.1.fMember, u6772, u6774], own kRef 62 u6772 t6770.1.fIns, own kOut 44 u6774 t6770.1.fOuts, box b6766 28 [.int .i64 0, .int .i64 0, .slice none 0 0, .slice none 0 0]]) ?_ (fun K6905 => ?_)
          · rintro v6830 v6841 w6906 HM
            replace HM : Mem w X w6906 [own kInt 2 v6841 ([0, 4] : List Int), own kInt 2 v6830 ([0, 61, 1] : List Int), box b0 70 [p0_0, .int .i64 t6788.2], box b6782 28 [.int .i64 t6770.1.fKind, .int .i64 t6770.1.fMember, u6772, u6774], own kRef 62 u6772 t6770.1.fIns, own kOut 44 u6774 t6770.1.fOuts, box b6766 28 [.int .i64 0, .int .i64 0, .slice none 0 0, .slice none 0 0]] := HM
            have hS := Mem.suf (M := [own kInt 2 v6841 ([0, 4] : List Int), own kInt 2 v6830 ([0, 61, 1] : List Int), box b0 70 [p0_0, .int .i64 t6788.2], box b6782 28 [.int .i64 t6770.1.fKind, .int .i64 t6770.1.fMember, u6772, u6774], own kRef 62 u6772 t6770.1.fIns]) HM
            refine drw_any [1, 4] (by kernel_rfl) rfl (.cons ?_ (.cons ?_ .nil))
            · skip
              refine br_does (l' := (bs 13 111)) rfl (guard_none rfl) rfl rfl (by kernel_rfl) (does_ex' (ex_load1 rfl rfl Tryz.underlying25 rfl ((HM.box_at 3 rfl) 2 _ rfl))) ?_
              rintro _ _ ⟨rfl, rfl⟩
              refine ⟨hS, ?_⟩
              exact drw_sub (K6891 v6830 v6841 _ HM) (Sub.cons rfl (Sub.cons rfl (Sub.cons rfl (Sub.cons rfl (Sub.cons rfl (Sub.cons rfl (Sub.cons rfl Sub.nil)))))))
            · skip
              replace HM := HM.front 2 rfl rfl
              obtain ⟨F6835, hF6836, hFn6837, hFl6838, HMh6839, hcl6840⟩ := HM.hide (Ms := [box b0 70 [p0_0, .int .i64 t6788.2]])
              refine br_does (l' := (bs 13 125)) rfl (guard_none rfl) rfl rfl (by kernel_rfl) (does_callk rfl callok20 rfl (spec_l1Pick.calls (x0 := (⟨x0.fCode, t6788.2⟩ : l1Src)) (x1 := ([0, 61, 1] : List Int)) (hide_olds _ _) hF6836 hFn6837 hFl6838 (HMh6839.rdo hwo hp0_0) (HMh6839.own_rd 1 rfl) h6834)) ?_
              rintro _ w6907 ⟨rfl, hn⟩
              replace HM : Mem w X w6907 [box b0 70 [p0_0, .int .i64 t6833.2], own kInt 2 v6841 ([0, 4] : List Int), own kInt 2 v6830 ([0, 61, 1] : List Int), box b6782 28 [.int .i64 t6770.1.fKind, .int .i64 t6770.1.fMember, u6772, u6774], own kRef 62 u6772 t6770.1.fIns, own kOut 44 u6774 t6770.1.fOuts, box b6766 28 [.int .i64 0, .int .i64 0, .slice none 0 0, .slice none 0 0]] := hcl6840 _ _ hn
              have hS := Mem.suf (M := [box b0 70 [p0_0, .int .i64 t6833.2], own kInt 2 v6841 ([0, 4] : List Int), own kInt 2 v6830 ([0, 61, 1] : List Int), box b6782 28 [.int .i64 t6770.1.fKind, .int .i64 t6770.1.fMember, u6772, u6774], own kRef 62 u6772 t6770.1.fIns]) HM
              refine ⟨hS, ?_⟩
              replace HM := HM.front 6 rfl rfl
              replace HM := HM.front 6 rfl rfl
              replace HM := HM.front 6 rfl rfl
              replace HM := HM.front 6 rfl rfl
              replace HM := HM.front 6 rfl rfl
              replace HM := HM.front 5 rfl rfl
              replace HM := HM.front 6 rfl rfl
              exact drw_sub (K6894 v6830 v6841 _ HM) (Sub.cons rfl (Sub.cons rfl (Sub.cons rfl (Sub.cons rfl (Sub.cons rfl (Sub.cons rfl Sub.nil))))))
          refine dt 0 (bs 13 1) rfl rfl rfl rfl (by kernel_rfl) (ex_fieldAddr (off' := 2) rfl rfl Tryz.underlying28 rfl tsz25 rfl) hS ?_
          refine dt 2 (bs 13 5) rfl rfl rfl rfl (by kernel_rfl) (ex_move rfl rfl) hS ?_
          refine dt 5 (bs 13 37) rfl rfl rfl rfl (by kernel_rfl) (ex_move rfl rfl) hS ?_
          refine drw_any [1, 3, 6] (by kernel_rfl) rfl (.cons ?_ (.cons ?_ (.cons ?_ .nil)))
          · skip
            refine br_does (l' := (bs 13 39)) rfl (guard_none rfl) rfl rfl (by kernel_rfl) (does_ex' (ex_load1 rfl rfl Tryz.underlying25 rfl ((HM.box_at 1 rfl) 2 _ rfl))) ?_
            rintro _ _ ⟨rfl, rfl⟩
            refine ⟨hS, ?_⟩
            refine drw_any [3, 6] (by kernel_rfl) rfl (.cons ?_ (.cons ?_ .nil))
            · skip
              refine br_does (l' := (bs 13 47)) rfl (guard_none rfl) rfl rfl (by kernel_rfl) (does_lit (e := 2) (cs := [.int .i64 0, .int .i64 61, .int .i64 1]) (xs := ([0, 61, 1] : List Int)) kInt rfl rfl (fun _ => by kernel_rfl) rfl rfl (fun _ _ h => by have h' : _ = [] := h; subst h'; exact (Elems.cons (d := kInt) (x := 0) (f := []) ⟨rfl, rfl⟩ (Elems.cons (d := kInt) (x := 61) (f := []) ⟨rfl, rfl⟩ (Elems.cons (d := kInt) (x := 1) (f := []) ⟨rfl, rfl⟩ .nil)))) HM.emp) ?_
              rintro v6830 w6908 HM
              have hS := Mem.suf (M := [own kInt 2 v6830 ([0, 61, 1] : List Int), box b0 70 [p0_0, .int .i64 t6788.2], box b6782 28 [.int .i64 t6770.1.fKind, .int .i64 t6770.1.fMember, u6772, u6774], own kRef 62 u6772 t6770.1.fIns]) HM
              refine ⟨hS, ?_⟩
              exact drw_sub (K6898 v6830 _ HM) (Sub.cons rfl (Sub.cons rfl (Sub.cons rfl (Sub.cons rfl (Sub.cons rfl (Sub.cons rfl Sub.nil))))))
            · skip
              refine br_does (l' := (bs 13 103)) rfl (guard_none rfl) rfl rfl (by kernel_rfl) (does_lit (e := 2) (cs := [.int .i64 0, .int .i64 4]) (xs := ([0, 4] : List Int)) kInt rfl rfl (fun _ => by kernel_rfl) rfl rfl (fun _ _ h => by have h' : _ = [] := h; subst h'; exact (Elems.cons (d := kInt) (x := 0) (f := []) ⟨rfl, rfl⟩ (Elems.cons (d := kInt) (x := 4) (f := []) ⟨rfl, rfl⟩ .nil))) HM.emp) ?_
              rintro v6841 w6909 HM
              have hS := Mem.suf (M := [own kInt 2 v6841 ([0, 4] : List Int), box b0 70 [p0_0, .int .i64 t6788.2], box b6782 28 [.int .i64 t6770.1.fKind, .int .i64 t6770.1.fMember, u6772, u6774], own kRef 62 u6772 t6770.1.fIns]) HM
              refine ⟨hS, ?_⟩
              exact drw_sub (K6902 v6841 _ HM) (Sub.cons rfl (Sub.cons rfl (Sub.cons rfl (Sub.cons rfl (Sub.cons rfl (Sub.cons rfl Sub.nil))))))
          · skip
            refine br_does (l' := (bs 13 45)) rfl (guard_none rfl) rfl rfl (by kernel_rfl) (does_lit (e := 2) (cs := [.int .i64 0, .int .i64 61, .int .i64 1]) (xs := ([0, 61, 1] : List Int)) kInt rfl rfl (fun _ => by kernel_rfl) rfl rfl (fun _ _ h => by have h' : _ = [] := h; subst h'; exact (Elems.cons (d := kInt) (x := 0) (f := []) ⟨rfl, rfl⟩ (Elems.cons (d := kInt) (x := 61) (f := []) ⟨rfl, rfl⟩ (Elems.cons (d := kInt) (x := 1) (f := []) ⟨rfl, rfl⟩ .nil)))) HM.emp) ?_
            rintro v6830 w6910 HM
            have hS := Mem.suf (M := [own kInt 2 v6830 ([0, 61, 1] : List Int), box b0 70 [p0_0, .int .i64 t6788.2], box b6782 28 [.int .i64 t6770.1.fKind, .int .i64 t6770.1.fMember, u6772, u6774], own kRef 62 u6772 t6770.1.fIns]) HM
            refine ⟨hS, ?_⟩
            refine drw_any [1, 4, 6] (by kernel_rfl) rfl (.cons ?_ (.cons ?_ (.cons ?_ .nil)))
            · skip
              refine br_does (l' := (bs 13 47)) rfl (guard_none rfl) rfl rfl (by kernel_rfl) (does_ex' (ex_load1 rfl rfl Tryz.underlying25 rfl ((HM.box_at 2 rfl) 2 _ rfl))) ?_
              rintro _ _ ⟨rfl, rfl⟩
              refine ⟨hS, ?_⟩
              exact drw_sub (K6898 v6830 _ HM) (Sub.cons rfl (Sub.cons rfl (Sub.cons rfl (Sub.cons rfl (Sub.cons rfl (Sub.cons rfl Sub.nil))))))
            · skip
              replace HM := HM.front 1 rfl rfl
              obtain ⟨F6835, hF6836, hFn6837, hFl6838, HMh6839, hcl6840⟩ := HM.hide (Ms := [box b0 70 [p0_0, .int .i64 t6788.2]])
              refine br_does (l' := (bs 13 61)) rfl (guard_none rfl) rfl rfl (by kernel_rfl) (does_callk rfl callok20 rfl (spec_l1Pick.calls (x0 := (⟨x0.fCode, t6788.2⟩ : l1Src)) (x1 := ([0, 61, 1] : List Int)) (hide_olds _ _) hF6836 hFn6837 hFl6838 (HMh6839.rdo hwo hp0_0) (HMh6839.own_rd 0 rfl) h6834)) ?_
              rintro _ w6911 ⟨rfl, hn⟩
              replace HM : Mem w X w6911 [box b0 70 [p0_0, .int .i64 t6833.2], own kInt 2 v6830 ([0, 61, 1] : List Int), box b6782 28 [.int .i64 t6770.1.fKind, .int .i64 t6770.1.fMember, u6772, u6774], own kRef 62 u6772 t6770.1.fIns, own kOut 44 u6774 t6770.1.fOuts, box b6766 28 [.int .i64 0, .int .i64 0, .slice none 0 0, .slice none 0 0]] := hcl6840 _ _ hn
              have hS := Mem.suf (M := [box b0 70 [p0_0, .int .i64 t6833.2], own kInt 2 v6830 ([0, 61, 1] : List Int), box b6782 28 [.int .i64 t6770.1.fKind, .int .i64 t6770.1.fMember, u6772, u6774], own kRef 62 u6772 t6770.1.fIns]) HM
              refine ⟨hS, ?_⟩
              refine drw_any [1, 6] (by kernel_rfl) rfl (.cons ?_ (.cons ?_ .nil))
              · skip
                refine br_does (l' := (bs 13 63)) rfl (guard_none rfl) rfl rfl (by kernel_rfl) (does_ex' (ex_load1 rfl rfl Tryz.underlying25 rfl ((HM.box_at 2 rfl) 2 _ rfl))) ?_
                rintro _ _ ⟨rfl, rfl⟩
                refine ⟨hS, ?_⟩
                exact drw_sub (K6888 v6830 _ HM) (Sub.cons rfl (Sub.cons rfl (Sub.cons rfl (Sub.cons rfl (Sub.cons rfl Sub.nil)))))
              · skip
                refine br_does (l' := (bs 13 125)) rfl (guard_none rfl) rfl rfl (by kernel_rfl) (does_lit (e := 2) (cs := [.int .i64 0, .int .i64 4]) (xs := ([0, 4] : List Int)) kInt rfl rfl (fun _ => by kernel_rfl) rfl rfl (fun _ _ h => by have h' : _ = [] := h; subst h'; exact (Elems.cons (d := kInt) (x := 0) (f := []) ⟨rfl, rfl⟩ (Elems.cons (d := kInt) (x := 4) (f := []) ⟨rfl, rfl⟩ .nil))) HM.emp) ?_
                rintro v6841 w6912 HM
                have hS := Mem.suf (M := [own kInt 2 v6841 ([0, 4] : List Int), box b0 70 [p0_0, .int .i64 t6833.2], own kInt 2 v6830 ([0, 61, 1] : List Int), box b6782 28 [.int .i64 t6770.1.fKind, .int .i64 t6770.1.fMember, u6772, u6774], own kRef 62 u6772 t6770.1.fIns]) HM
                refine ⟨hS, ?_⟩
                exact drw_sub (K6894 v6830 v6841 _ HM) (Sub.cons rfl (Sub.cons rfl (Sub.cons rfl (Sub.cons rfl (Sub.cons rfl (Sub.cons rfl Sub.nil))))))
            · skip
              refine br_does (l' := (bs 13 109)) rfl (guard_none rfl) rfl rfl (by kernel_rfl) (does_lit (e := 2) (cs := [.int .i64 0, .int .i64 4]) (xs := ([0, 4] : List Int)) kInt rfl rfl (fun _ => by kernel_rfl) rfl rfl (fun _ _ h => by have h' : _ = [] := h; subst h'; exact (Elems.cons (d := kInt) (x := 0) (f := []) ⟨rfl, rfl⟩ (Elems.cons (d := kInt) (x := 4) (f := []) ⟨rfl, rfl⟩ .nil))) HM.emp) ?_
              rintro v6841 w6913 HM
              have hS := Mem.suf (M := [own kInt 2 v6841 ([0, 4] : List Int), own kInt 2 v6830 ([0, 61, 1] : List Int), box b0 70 [p0_0, .int .i64 t6788.2], box b6782 28 [.int .i64 t6770.1.fKind, .int .i64 t6770.1.fMember, u6772, u6774], own kRef 62 u6772 t6770.1.fIns]) HM
              refine ⟨hS, ?_⟩
              exact drw_sub (K6905 v6830 v6841 _ HM) (Sub.cons rfl (Sub.cons rfl (Sub.cons rfl (Sub.cons rfl (Sub.cons rfl (Sub.cons rfl (Sub.cons rfl Sub.nil)))))))
          · skip
            refine br_does (l' := (bs 13 101)) rfl (guard_none rfl) rfl rfl (by kernel_rfl) (does_lit (e := 2) (cs := [.int .i64 0, .int .i64 4]) (xs := ([0, 4] : List Int)) kInt rfl rfl (fun _ => by kernel_rfl) rfl rfl (fun _ _ h => by have h' : _ = [] := h; subst h'; exact (Elems.cons (d := kInt) (x := 0) (f := []) ⟨rfl, rfl⟩ (Elems.cons (d := kInt) (x := 4) (f := []) ⟨rfl, rfl⟩ .nil))) HM.emp) ?_
            rintro v6841 w6914 HM
            have hS := Mem.suf (M := [own kInt 2 v6841 ([0, 4] : List Int), box b0 70 [p0_0, .int .i64 t6788.2], box b6782 28 [.int .i64 t6770.1.fKind, .int .i64 t6770.1.fMember, u6772, u6774], own kRef 62 u6772 t6770.1.fIns]) HM
            refine ⟨hS, ?_⟩
            refine drw_any [1, 3] (by kernel_rfl) rfl (.cons ?_ (.cons ?_ .nil))
            · skip
              refine br_does (l' := (bs 13 103)) rfl (guard_none rfl) rfl rfl (by kernel_rfl) (does_ex' (ex_load1 rfl rfl Tryz.underlying25 rfl ((HM.box_at 2 rfl) 2 _ rfl))) ?_
              rintro _ _ ⟨rfl, rfl⟩
              refine ⟨hS, ?_⟩
              exact drw_sub (K6902 v6841 _ HM) (Sub.cons rfl (Sub.cons rfl (Sub.cons rfl (Sub.cons rfl (Sub.cons rfl (Sub.cons rfl Sub.nil))))))
            · skip
              refine br_does (l' := (bs 13 109)) rfl (guard_none rfl) rfl rfl (by kernel_rfl) (does_lit (e := 2) (cs := [.int .i64 0, .int .i64 61, .int .i64 1]) (xs := ([0, 61, 1] : List Int)) kInt rfl rfl (fun _ => by kernel_rfl) rfl rfl (fun _ _ h => by have h' : _ = [] := h; subst h'; exact (Elems.cons (d := kInt) (x := 0) (f := []) ⟨rfl, rfl⟩ (Elems.cons (d := kInt) (x := 61) (f := []) ⟨rfl, rfl⟩ (Elems.cons (d := kInt) (x := 1) (f := []) ⟨rfl, rfl⟩ .nil)))) HM.emp) ?_
              rintro v6830 w6915 HM
              have hS := Mem.suf (M := [own kInt 2 v6830 ([0, 61, 1] : List Int), own kInt 2 v6841 ([0, 4] : List Int), box b0 70 [p0_0, .int .i64 t6788.2], box b6782 28 [.int .i64 t6770.1.fKind, .int .i64 t6770.1.fMember, u6772, u6774], own kRef 62 u6772 t6770.1.fIns]) HM
              refine ⟨hS, ?_⟩
              replace HM := HM.front 6 rfl rfl
              replace HM := HM.front 6 rfl rfl
              replace HM := HM.front 6 rfl rfl
              replace HM := HM.front 6 rfl rfl
              replace HM := HM.front 6 rfl rfl
              replace HM := HM.front 5 rfl rfl
              replace HM := HM.front 6 rfl rfl
              exact drw_sub (K6905 v6830 v6841 _ HM) (Sub.cons rfl (Sub.cons rfl (Sub.cons rfl (Sub.cons rfl (Sub.cons rfl (Sub.cons rfl (Sub.cons rfl Sub.nil)))))))
        · rintro _ w6916 ⟨v6856, rfl, HM⟩
          refine at_block ?_
          refine at_then ?_
          refine run_seq ?_
          refine run_region rfl ?_
          refine ox rfl rfl rfl rfl (ex_loadN (cs := [(.int .i64 t6770.1.fKind), (.int .i64 t6770.1.fMember), v6856, u6774]) rfl rfl Tryz.underlying28 rfl tsz28 rfl ((HM.box_at 2 rfl).sub 0 4 rfl)) ?_
          replace HM := HM.front 1 rfl rfl
          refine odS rfl rfl rfl (does_store (vs := [.int .i64 t6770.1.fKind, .int .i64 t6770.1.fMember, v6856, u6774]) (cs' := [.int .i64 t6770.1.fKind, .int .i64 t6770.1.fMember, v6856, u6774]) rfl rfl rfl rfl tsz28 (Ones.int (Ones.int (Ones.rd (HM.own_rd 3 rfl) (Ones.rd (HM.own_rd 4 rfl) Ones.nil)))) rfl rfl HM) ?_
          rintro w6917 HM
          refine ops_nil (at_then ?_)
          refine run_ret ?_
          replace HM := (HM.front 2 rfl rfl).drop
          replace HM := HM.front 1 rfl rfl
          replace HM := HM.front 3 rfl rfl
          replace HM := HM.front 3 rfl rfl
          replace HM := HM.front 3 rfl rfl
          have hcb0 := HM.box_at 0 rfl
          replace HM := (HM.front 0 rfl rfl).drop
          have hR := Option.some.inj H
          subst hR
          exact at_retN rfl rfl Tryz.underlying28 rfl tsz28 rfl hcb0 ⟨_, rfl, _, _, rfl, HM⟩
      · replace H := cond_f hb6829 H
        refine run_seq ?_
        refine run_region rfl ?_
        refine ox rfl rfl rfl rfl (ex_eql rfl rfl rfl) ?_
        refine ox rfl rfl rfl rfl (ex_assign rfl rfl) ?_
        refine ops_nil (at_then ?_)
        refine run_cond (b := (t6788.1 == 3)) rfl (fun hb6918 => ?_) (fun hb6918 => ?_)
        · replace H := cond_t hb6918 H
          obtain ⟨t6922, h6923, H⟩ := bind_some H
          obtain ⟨e6930, H⟩ := chk_some H
          replace HM := HM.front 3 rfl rfl
          replace HM := HM.front 1 rfl rfl
          refine run_drawf (fun w_ => Mem w X w_ [box b6782 28 [.int .i64 t6770.1.fKind, .int .i64 t6770.1.fMember, u6772, u6774], own kRef 62 u6772 t6770.1.fIns, box b6766 28 [.int .i64 0, .int .i64 0, .slice none 0 0, .slice none 0 0]]) [(0, true), (1, true), (2, true), (3, false), (4, false), (5, true), (6, true), (7, false)] mixed rfl rfl (by kernel_rfl) ?_
          replace HM := HM.grow (fr_drew _)
          have hS := Mem.suf (M := [box b0 70 [p0_0, .int .i64 t6788.2], own kOut 44 u6774 t6770.1.fOuts]) HM
          refine dp rfl rfl rfl rfl (ex_fieldAddr (off' := 3) rfl rfl Tryz.underlying28 rfl tsz26 rfl) hS ?_
          refine drwp_take rfl (guard_none rfl) rfl rfl (fun w_ hS_ => (ex_load1 rfl rfl Tryz.underlying26 rfl ((hS_.box_at 0 rfl) 3 _ rfl))) hS ?_
          refine dp rfl rfl rfl rfl (ex_move rfl rfl) hS ?_
          refine drwp_one rfl (guard_none rfl) rfl rfl (does_lit (e := 2) (cs := [.int .i64 0, .int .i64 1, .int .i64 1000001, .int .i64 99]) (xs := ([0, 1, 1000001, 99] : List Int)) kInt rfl rfl (fun _ => by kernel_rfl) rfl rfl (fun _ _ h => by have h' : _ = [] := h; subst h'; exact (Elems.cons (d := kInt) (x := 0) (f := []) ⟨rfl, rfl⟩ (Elems.cons (d := kInt) (x := 1) (f := []) ⟨rfl, rfl⟩ (Elems.cons (d := kInt) (x := 1000001) (f := []) ⟨rfl, rfl⟩ (Elems.cons (d := kInt) (x := 99) (f := []) ⟨rfl, rfl⟩ .nil))))) HM.emp) ?_
          rintro v6919 w6931 HM
          have hS := Mem.suf (M := [own kInt 2 v6919 ([0, 1, 1000001, 99] : List Int), box b0 70 [p0_0, .int .i64 t6788.2], own kOut 44 u6774 t6770.1.fOuts]) HM
          refine ⟨hS, ?_⟩
          replace HM := HM.front 1 rfl rfl
          obtain ⟨F6924, hF6925, hFn6926, hFl6927, HMh6928, hcl6929⟩ := HM.hide (Ms := [box b0 70 [p0_0, .int .i64 t6788.2]])
          refine drwp_one rfl (guard_none rfl) rfl rfl (does_callk rfl callok20 rfl (spec_l1Pick.calls (x0 := (⟨x0.fCode, t6788.2⟩ : l1Src)) (x1 := ([0, 1, 1000001, 99] : List Int)) (hide_olds _ _) hF6925 hFn6926 hFl6927 (HMh6928.rdo hwo hp0_0) (HMh6928.own_rd 0 rfl) h6923)) ?_
          rintro _ w6932 ⟨rfl, hn⟩
          replace HM : Mem w X w6932 [box b0 70 [p0_0, .int .i64 t6922.2], own kInt 2 v6919 ([0, 1, 1000001, 99] : List Int), own kOut 44 u6774 t6770.1.fOuts, box b6782 28 [.int .i64 t6770.1.fKind, .int .i64 t6770.1.fMember, u6772, u6774], own kRef 62 u6772 t6770.1.fIns, box b6766 28 [.int .i64 0, .int .i64 0, .slice none 0 0, .slice none 0 0]] := hcl6929 _ _ hn
          have hS := Mem.suf (M := [box b0 70 [p0_0, .int .i64 t6922.2], own kInt 2 v6919 ([0, 1, 1000001, 99] : List Int), own kOut 44 u6774 t6770.1.fOuts]) HM
          refine ⟨hS, ?_⟩
          refine dp rfl rfl rfl rfl (ex_indexAddr (d := kOut) rfl rfl rfl Tryz.underlying26 tsz44 (HM.own_rd 2 rfl) (idx_lo e6930) (idx_hi e6930)) hS ?_
          refine dp rfl rfl rfl rfl (ex_fieldAddr (off' := so u6774 + ((0 : Int)).toNat * 4) rfl rfl Tryz.underlying44 rfl tsz2 rfl) hS ?_
          replace HM := HM.front 2 rfl rfl
          refine drwp_oneS rfl (guard_none rfl) rfl (does_setField (fo := 0) (vs := [(.int .i64 t6922.1)]) (y := (⟨t6922.1, (gt t6770.1.fOuts (0 : Int)).fRule⟩ : Out)) kOut rfl rfl rfl rfl rfl tsz2 (Ones.int Ones.nil) rfl rfl (idx_nat e6930) (fun _ _ _ h => by rw [← gt_eq (idx_nat e6930)] at h; obtain ⟨_, rfl, h2⟩ := h; exact ⟨_, rfl, h2⟩) HM) ?_
          rintro w6933 HM
          have hS := Mem.suf (M := [own kOut 44 u6774 (t6770.1.fOuts.set ((0 : Int)).toNat (⟨t6922.1, (gt t6770.1.fOuts (0 : Int)).fRule⟩ : Out)), box b0 70 [p0_0, .int .i64 t6922.2], own kInt 2 v6919 ([0, 1, 1000001, 99] : List Int)]) HM
          refine ⟨hS, ?_⟩
          refine drwp_done ?_
          refine at_block ?_
          refine at_then ?_
          refine run_seq ?_
          refine run_region rfl ?_
          refine ox rfl rfl rfl rfl (ex_loadN (cs := [(.int .i64 t6770.1.fKind), (.int .i64 t6770.1.fMember), u6772, u6774]) rfl rfl Tryz.underlying28 rfl tsz28 rfl ((HM.box_at 3 rfl).sub 0 4 rfl)) ?_
          replace HM := HM.front 5 rfl rfl
          refine odS rfl rfl rfl (does_store (vs := [.int .i64 t6770.1.fKind, .int .i64 t6770.1.fMember, u6772, u6774]) (cs' := [.int .i64 t6770.1.fKind, .int .i64 t6770.1.fMember, u6772, u6774]) rfl rfl rfl rfl tsz28 (Ones.int (Ones.int (Ones.rd (HM.own_rd 5 rfl) (Ones.rd (HM.own_rd 1 rfl) Ones.nil)))) rfl rfl HM) ?_
          rintro w6934 HM
          refine ops_nil (at_then ?_)
          refine run_ret ?_
          replace HM := (HM.front 3 rfl rfl).drop
          replace HM := (HM.front 3 rfl rfl).drop
          replace HM := HM.front 2 rfl rfl
          replace HM := HM.front 2 rfl rfl
          replace HM := HM.front 3 rfl rfl
          replace HM := HM.front 3 rfl rfl
          have hcb0 := HM.box_at 0 rfl
          replace HM := (HM.front 0 rfl rfl).drop
          have hR := Option.some.inj H
          subst hR
          exact at_retN rfl rfl Tryz.underlying28 rfl tsz28 rfl hcb0 ⟨_, rfl, _, _, rfl, HM⟩
        · replace H := cond_f hb6918 H
          refine run_seq ?_
          refine run_region rfl ?_
          refine ox rfl rfl rfl rfl (ex_eql rfl rfl rfl) ?_
          refine ox rfl rfl rfl rfl (ex_assign rfl rfl) ?_
          refine ops_nil (at_then ?_)
          refine run_cond (b := (t6788.1 == 4)) rfl (fun hb6935 => ?_) (fun hb6935 => ?_)
          · replace H := cond_t hb6935 H
            obtain ⟨t6936, h6937, H⟩ := bind_some H
            obtain ⟨e6946, H⟩ := chk_some H
            replace HM := HM.front 3 rfl rfl
            replace HM := HM.front 1 rfl rfl
            refine run_drawf (fun w_ => Mem w X w_ [box b6782 28 [.int .i64 t6770.1.fKind, .int .i64 t6770.1.fMember, u6772, u6774], own kRef 62 u6772 t6770.1.fIns, box b6766 28 [.int .i64 0, .int .i64 0, .slice none 0 0, .slice none 0 0]]) [(0, true), (1, true), (2, true), (3, false), (4, true), (5, true), (6, false)] mixed rfl rfl (by kernel_rfl) ?_
            replace HM := HM.grow (fr_drew _)
            have hS := Mem.suf (M := [box b0 70 [p0_0, .int .i64 t6788.2], own kOut 44 u6774 t6770.1.fOuts]) HM
            refine dp rfl rfl rfl rfl (ex_fieldAddr (off' := 3) rfl rfl Tryz.underlying28 rfl tsz26 rfl) hS ?_
            refine drwp_take rfl (guard_none rfl) rfl rfl (fun w_ hS_ => (ex_load1 rfl rfl Tryz.underlying26 rfl ((hS_.box_at 0 rfl) 3 _ rfl))) hS ?_
            refine dp rfl rfl rfl rfl (ex_move rfl rfl) hS ?_
            obtain ⟨F6940, hF6941, hFn6942, hFl6943, HMh6944, hcl6945⟩ := HM.hide (Ms := [box b0 70 [p0_0, .int .i64 t6788.2]])
            refine drwp_one rfl (guard_none rfl) rfl rfl (does_callk rfl callok55 rfl (spec_l2Bent.calls (x0 := (⟨x0.fCode, t6788.2⟩ : l1Src)) (hide_olds _ _) hF6941 hFn6942 hFl6943 (HMh6944.rdo hwo hp0_0) h6937)) ?_
            rintro _ w6947 ⟨u6938, rfl, hn⟩
            replace HM : Mem w X w6947 [own kInt 2 u6938 t6936.1.fKeys, box b0 70 [p0_0, .int .i64 t6936.2], own kOut 44 u6774 t6770.1.fOuts, box b6782 28 [.int .i64 t6770.1.fKind, .int .i64 t6770.1.fMember, u6772, u6774], own kRef 62 u6772 t6770.1.fIns, box b6766 28 [.int .i64 0, .int .i64 0, .slice none 0 0, .slice none 0 0]] := hcl6945 _ _ hn
            have hS := Mem.suf (M := [own kInt 2 u6938 t6936.1.fKeys, box b0 70 [p0_0, .int .i64 t6936.2], own kOut 44 u6774 t6770.1.fOuts]) HM
            refine ⟨hS, ?_⟩
            refine dp rfl rfl rfl rfl (ex_indexAddr (d := kOut) rfl rfl rfl Tryz.underlying26 tsz44 (HM.own_rd 2 rfl) (idx_lo e6946) (idx_hi e6946)) hS ?_
            refine dp rfl rfl rfl rfl (ex_fieldAddr (off' := so u6774 + ((0 : Int)).toNat * 4 + 1) rfl rfl Tryz.underlying44 rfl tsz42 rfl) hS ?_
            replace HM := HM.front 2 rfl rfl
            refine drwp_oneS rfl (guard_none rfl) rfl (does_setFieldRow (fo := 1) (vs := [u6938, (.int .i64 t6936.1.fNeed), (.int .i64 t6936.1.fAfter)]) (y := (⟨(gt t6770.1.fOuts (0 : Int)).fValue, (⟨t6936.1.fKeys, t6936.1.fNeed, t6936.1.fAfter⟩ : Rule)⟩ : Out)) kOut rfl rfl rfl rfl rfl tsz42 (Ones.rd (HM.own_rd 1 rfl) (Ones.int (Ones.int Ones.nil))) rfl rfl (idx_nat e6946) (fun _ _ _ _ h hC => by rw [← gt_eq (idx_nat e6946)] at h; obtain ⟨_, rfl, _⟩ := h; exact ⟨_, rfl, hC⟩) HM) ?_
            rintro w6948 HM
            have hS := Mem.suf (M := [own kOut 44 u6774 (t6770.1.fOuts.set ((0 : Int)).toNat (⟨(gt t6770.1.fOuts (0 : Int)).fValue, (⟨t6936.1.fKeys, t6936.1.fNeed, t6936.1.fAfter⟩ : Rule)⟩ : Out)), box b0 70 [p0_0, .int .i64 t6936.2]]) HM
            refine ⟨hS, ?_⟩
            refine drwp_done ?_
            refine at_block ?_
            refine at_then ?_
            refine run_seq ?_
            refine run_region rfl ?_
            refine ox rfl rfl rfl rfl (ex_loadN (cs := [(.int .i64 t6770.1.fKind), (.int .i64 t6770.1.fMember), u6772, u6774]) rfl rfl Tryz.underlying28 rfl tsz28 rfl ((HM.box_at 2 rfl).sub 0 4 rfl)) ?_
            replace HM := HM.front 4 rfl rfl
            refine odS rfl rfl rfl (does_store (vs := [.int .i64 t6770.1.fKind, .int .i64 t6770.1.fMember, u6772, u6774]) (cs' := [.int .i64 t6770.1.fKind, .int .i64 t6770.1.fMember, u6772, u6774]) rfl rfl rfl rfl tsz28 (Ones.int (Ones.int (Ones.rd (HM.own_rd 4 rfl) (Ones.rd (HM.own_rd 1 rfl) Ones.nil)))) rfl rfl HM) ?_
            rintro w6949 HM
            refine ops_nil (at_then ?_)
            refine run_ret ?_
            replace HM := (HM.front 3 rfl rfl).drop
            replace HM := HM.front 2 rfl rfl
            replace HM := HM.front 2 rfl rfl
            replace HM := HM.front 3 rfl rfl
            replace HM := HM.front 3 rfl rfl
            have hcb0 := HM.box_at 0 rfl
            replace HM := (HM.front 0 rfl rfl).drop
            have hR := Option.some.inj H
            subst hR
            exact at_retN rfl rfl Tryz.underlying28 rfl tsz28 rfl hcb0 ⟨_, rfl, _, _, rfl, HM⟩
          · replace H := cond_f hb6935 H
            refine run_seq ?_
            refine run_region rfl ?_
            refine ox rfl rfl rfl rfl (ex_eql rfl rfl rfl) ?_
            refine ox rfl rfl rfl rfl (ex_assign rfl rfl) ?_
            refine ops_nil (at_then ?_)
            refine run_cond (b := (t6788.1 == 5)) rfl (fun hb6950 => ?_) (fun hb6950 => ?_)
            · replace H := cond_t hb6950 H
              refine run_region rfl ?_
              refine ox rfl rfl rfl rfl (ex_fieldAddr (off' := 2) rfl rfl Tryz.underlying28 rfl tsz25 rfl) ?_
              replace HM := HM.front 1 rfl rfl
              refine odS rfl rfl rfl (does_store (vs := [.slice none 0 0]) (cs' := [.int .i64 t6770.1.fKind, .int .i64 t6770.1.fMember, .slice none 0 0, u6774]) rfl rfl rfl rfl tsz25 (Ones.sl Ones.nil) rfl rfl HM) ?_
              rintro w6951 HM
              refine ops_nil ?_
              refine at_block ?_
              refine at_then ?_
              refine run_seq ?_
              refine run_region rfl ?_
              refine ox rfl rfl rfl rfl (ex_loadN (cs := [(.int .i64 t6770.1.fKind), (.int .i64 t6770.1.fMember), (.slice none 0 0), u6774]) rfl rfl Tryz.underlying28 rfl tsz28 rfl ((HM.box_at 0 rfl).sub 0 4 rfl)) ?_
              replace HM := HM.front 4 rfl rfl
              refine odS rfl rfl rfl (does_store (vs := [.int .i64 t6770.1.fKind, .int .i64 t6770.1.fMember, .slice none 0 0, u6774]) (cs' := [.int .i64 t6770.1.fKind, .int .i64 t6770.1.fMember, .slice none 0 0, u6774]) rfl rfl rfl rfl tsz28 (Ones.int (Ones.int (Ones.sl (Ones.rd (HM.own_rd 4 rfl) Ones.nil)))) rfl rfl HM) ?_
              rintro w6952 HM
              refine ops_nil (at_then ?_)
              refine run_ret ?_
              replace HM := HM.empty kRef 62 none
              replace HM := (HM.front 2 rfl rfl).drop
              replace HM := (HM.front 3 rfl rfl).drop
              replace HM := HM.front 2 rfl rfl
              replace HM := HM.front 3 rfl rfl
              replace HM := HM.front 2 rfl rfl
              replace HM := HM.front 3 rfl rfl
              have hcb0 := HM.box_at 0 rfl
              replace HM := (HM.front 0 rfl rfl).drop
              have hR := Option.some.inj H
              subst hR
              exact at_retN rfl rfl Tryz.underlying28 rfl tsz28 rfl hcb0 ⟨_, rfl, _, _, rfl, HM⟩
            · replace H := cond_f hb6950 H
              refine run_seq ?_
              refine run_region rfl ?_
              refine ox rfl rfl rfl rfl (ex_eql rfl rfl rfl) ?_
              refine ox rfl rfl rfl rfl (ex_assign rfl rfl) ?_
              refine ops_nil (at_then ?_)
              refine run_cond (b := (t6788.1 == 6)) rfl (fun hb6954 => ?_) (fun hb6954 => ?_)
              · replace H := cond_t hb6954 H
                obtain ⟨e6958, H⟩ := chk_some H
                obtain ⟨e6959, H⟩ := chk_some H
                refine run_region rfl ?_
                refine od rfl rfl rfl rfl (does_make (x := (⟨0, (⟨[], 0, 0⟩ : Rule)⟩ : Out)) kOut rfl rfl rfl Tryz.underlying26 tsz44 tby44 tz44 rfl rfl (fun _ => ⟨.slice none 0 0, rfl, OwS.nil _ _ _ _⟩) (of_decide_eq_true e6958) rfl (leB_le e6959) rfl HM) ?_
                rintro v6955 w6960 HM
                refine ox rfl rfl rfl rfl (ex_fieldAddr (off' := 3) rfl rfl Tryz.underlying28 rfl tsz26 rfl) ?_
                replace HM := HM.front 2 rfl rfl
                refine odS rfl rfl rfl (does_store (vs := [v6955]) (cs' := [.int .i64 t6770.1.fKind, .int .i64 t6770.1.fMember, u6772, v6955]) rfl rfl rfl (rd_cells (HM.own_rd 1 rfl)) tsz26 (Ones.rd (HM.own_rd 1 rfl) Ones.nil) rfl rfl HM) ?_
                rintro w6961 HM
                refine ops_nil ?_
                refine at_block ?_
                refine at_then ?_
                refine run_seq ?_
                refine run_region rfl ?_
                refine ox rfl rfl rfl rfl (ex_loadN (cs := [(.int .i64 t6770.1.fKind), (.int .i64 t6770.1.fMember), u6772, v6955]) rfl rfl Tryz.underlying28 rfl tsz28 rfl ((HM.box_at 0 rfl).sub 0 4 rfl)) ?_
                replace HM := HM.front 5 rfl rfl
                refine odS rfl rfl rfl (does_store (vs := [.int .i64 t6770.1.fKind, .int .i64 t6770.1.fMember, u6772, v6955]) (cs' := [.int .i64 t6770.1.fKind, .int .i64 t6770.1.fMember, u6772, v6955]) rfl rfl rfl rfl tsz28 (Ones.int (Ones.int (Ones.rd (HM.own_rd 4 rfl) (Ones.rd (HM.own_rd 2 rfl) Ones.nil)))) rfl rfl HM) ?_
                rintro w6962 HM
                refine ops_nil (at_then ?_)
                refine run_ret ?_
                replace HM := (HM.front 1 rfl rfl).drop
                replace HM := (HM.front 4 rfl rfl).drop
                replace HM := HM.front 2 rfl rfl
                replace HM := HM.front 2 rfl rfl
                replace HM := HM.front 3 rfl rfl
                replace HM := HM.front 3 rfl rfl
                have hcb0 := HM.box_at 0 rfl
                replace HM := (HM.front 0 rfl rfl).drop
                have hR := Option.some.inj H
                subst hR
                exact at_retN rfl rfl Tryz.underlying28 rfl tsz28 rfl hcb0 ⟨_, rfl, _, _, rfl, HM⟩
              · replace H := cond_f hb6954 H
                refine run_skip ?_
                refine at_block ?_
                refine at_then ?_
                refine run_seq ?_
                refine run_region rfl ?_
                refine ox rfl rfl rfl rfl (ex_loadN (cs := [(.int .i64 t6770.1.fKind), (.int .i64 t6770.1.fMember), u6772, u6774]) rfl rfl Tryz.underlying28 rfl tsz28 rfl ((HM.box_at 1 rfl).sub 0 4 rfl)) ?_
                replace HM := HM.front 4 rfl rfl
                refine odS rfl rfl rfl (does_store (vs := [.int .i64 t6770.1.fKind, .int .i64 t6770.1.fMember, u6772, u6774]) (cs' := [.int .i64 t6770.1.fKind, .int .i64 t6770.1.fMember, u6772, u6774]) rfl rfl rfl rfl tsz28 (Ones.int (Ones.int (Ones.rd (HM.own_rd 3 rfl) (Ones.rd (HM.own_rd 4 rfl) Ones.nil)))) rfl rfl HM) ?_
                rintro w6963 HM
                refine ops_nil (at_then ?_)
                refine run_ret ?_
                replace HM := (HM.front 2 rfl rfl).drop
                replace HM := HM.front 1 rfl rfl
                replace HM := HM.front 3 rfl rfl
                replace HM := HM.front 3 rfl rfl
                replace HM := HM.front 3 rfl rfl
                have hcb0 := HM.box_at 0 rfl
                replace HM := (HM.front 0 rfl rfl).drop
                have hR := Option.some.inj H
                subst hR
                exact at_retN rfl rfl Tryz.underlying28 rfl tsz28 rfl hcb0 ⟨_, rfl, _, _, rfl, HM⟩
end Go.Proofs.YtmaolhocmkkmjaaGreatDoor.Zk
