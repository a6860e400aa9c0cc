/- What functions of the program compute, each as a plain function, and that they do. Conditions: as each theorem states them. -/
import Derived.Test.YtmaolhocmkkmjaaGreatDoorFnTextsZkF4
namespace Go.Proofs.YtmaolhocmkkmjaaGreatDoor.Zk
open Go Go.RowKit Go.IntWalk Go.Proofs
set_option linter.unusedVariables false
set_option linter.unusedSimpArgs false
set_option maxRecDepth 100000
set_option maxHeartbeats 4000000
def impl_txText.l0 (x0 : Tx) : Nat → (List ByteArray) → Int → Option ((List ByteArray))
  | 0, _, _ => none
  | k + 1, a3859, a3861 => (bif (decide (a3861 < (x0.fIns.length : Int))) then (chk (idxOk a3861 x0.fIns.length) ((impl_dec.f k ((gt x0.fIns a3861).fTx)).bind fun t3890 => (chk (leB (t3890.size + (⟨#[58]⟩ : ByteArray).size) 9223372036854775807) ((impl_dec.f k ((gt x0.fIns a3861).fAt)).bind fun t3893 => (chk (leB ((t3890 ++ (⟨#[58]⟩ : ByteArray)).size + t3893.size) 9223372036854775807) (chk (leB ((a3859.length + ([(t3890 ++ (⟨#[58]⟩ : ByteArray)) ++ t3893] : List ByteArray).length) * 16) 140737488355328) (impl_txText.l0 x0 k (a3859 ++ ([(t3890 ++ (⟨#[58]⟩ : ByteArray)) ++ t3893] : List ByteArray)) (wrap64 (a3861 + 1))))))))) else some a3859)
theorem impl_txText.l0_z (x0 : Tx) (a3859 : List ByteArray) (a3861 : Int) : impl_txText.l0 x0 0 a3859 a3861 = none := rfl
theorem impl_txText.l0_s (x0 : Tx) (k : Nat) (a3859 : List ByteArray) (a3861 : Int) : impl_txText.l0 x0 (k + 1) a3859 a3861 = (bif (decide (a3861 < (x0.fIns.length : Int))) then (chk (idxOk a3861 x0.fIns.length) ((impl_dec.f k ((gt x0.fIns a3861).fTx)).bind fun t3890 => (chk (leB (t3890.size + (⟨#[58]⟩ : ByteArray).size) 9223372036854775807) ((impl_dec.f k ((gt x0.fIns a3861).fAt)).bind fun t3893 => (chk (leB ((t3890 ++ (⟨#[58]⟩ : ByteArray)).size + t3893.size) 9223372036854775807) (chk (leB ((a3859.length + ([(t3890 ++ (⟨#[58]⟩ : ByteArray)) ++ t3893] : List ByteArray).length) * 16) 140737488355328) (impl_txText.l0 x0 k (a3859 ++ ([(t3890 ++ (⟨#[58]⟩ : ByteArray)) ++ t3893] : List ByteArray)) (wrap64 (a3861 + 1))))))))) else some a3859) := rfl
def impl_txText.l1 (x0 : Tx) : Nat → (List ByteArray) → Int → Option ((List ByteArray))
  | 0, _, _ => none
  | k + 1, a4008, a4010 => (bif (decide (a4010 < (x0.fOuts.length : Int))) then (chk (idxOk a4010 x0.fOuts.length) ((impl_dec.f k ((gt x0.fOuts a4010).fValue)).bind fun t4043 => (chk (leB (t4043.size + (⟨#[61]⟩ : ByteArray).size) 9223372036854775807) ((impl_ruleText.f k ((gt x0.fOuts a4010).fRule) (⟨#[95]⟩ : ByteArray)).bind fun t4046 => (chk (leB ((t4043 ++ (⟨#[61]⟩ : ByteArray)).size + t4046.size) 9223372036854775807) (chk (leB ((a4008.length + ([(t4043 ++ (⟨#[61]⟩ : ByteArray)) ++ t4046] : List ByteArray).length) * 16) 140737488355328) (impl_txText.l1 x0 k (a4008 ++ ([(t4043 ++ (⟨#[61]⟩ : ByteArray)) ++ t4046] : List ByteArray)) (wrap64 (a4010 + 1))))))))) else some a4008)
theorem impl_txText.l1_z (x0 : Tx) (a4008 : List ByteArray) (a4010 : Int) : impl_txText.l1 x0 0 a4008 a4010 = none := rfl
theorem impl_txText.l1_s (x0 : Tx) (k : Nat) (a4008 : List ByteArray) (a4010 : Int) : impl_txText.l1 x0 (k + 1) a4008 a4010 = (bif (decide (a4010 < (x0.fOuts.length : Int))) then (chk (idxOk a4010 x0.fOuts.length) ((impl_dec.f k ((gt x0.fOuts a4010).fValue)).bind fun t4043 => (chk (leB (t4043.size + (⟨#[61]⟩ : ByteArray).size) 9223372036854775807) ((impl_ruleText.f k ((gt x0.fOuts a4010).fRule) (⟨#[95]⟩ : ByteArray)).bind fun t4046 => (chk (leB ((t4043 ++ (⟨#[61]⟩ : ByteArray)).size + t4046.size) 9223372036854775807) (chk (leB ((a4008.length + ([(t4043 ++ (⟨#[61]⟩ : ByteArray)) ++ t4046] : List ByteArray).length) * 16) 140737488355328) (impl_txText.l1 x0 k (a4008 ++ ([(t4043 ++ (⟨#[61]⟩ : ByteArray)) ++ t4046] : List ByteArray)) (wrap64 (a4010 + 1))))))))) else some a4008) := rfl
def impl_txText.f (k : Nat) (x0 : Tx) : Option (ByteArray × Int) := ((impl_kindWords.f k).bind fun t3727 => (chk (idxOk x0.fKind t3727.length) ((bif (x0.fKind != 0) then ((impl_dec.f k x0.fMember).bind fun t3761 => (chk (leB ((([(gt t3727 x0.fKind)] : List ByteArray).length + ([t3761] : List ByteArray).length) * 16) 140737488355328) (some (([(gt t3727 x0.fKind)] : List ByteArray) ++ ([t3761] : List ByteArray))))) else some ([(gt t3727 x0.fKind)] : List ByteArray)).bind (fun a3756 => ((impl_txText.l0 x0 k ([] : List ByteArray) 0).bind (fun a3836 => ((strings_Join.f k a3836 (⟨#[43]⟩ : ByteArray)).bind fun t3907 => (chk (leB ((a3756.length + ([t3907] : List ByteArray).length) * 16) 140737488355328) ((impl_txText.l1 x0 k (a3756 ++ ([t3907] : List ByteArray)) 0).bind (fun a3983 => ((strings_Join.f k a3983 (⟨#[32]⟩ : ByteArray)).bind fun t4060 => (bif (decide (300 < (t4060.size : Int))) then some ((⟨#[]⟩ : ByteArray), 2) else some (t4060, 0)))))))))))))
theorem impl_txText.calls {k : Nat} {x0 : Tx} {p0_0 : Value} {p0_1 : Value} {w : World} (htab : TabP w) (hp0_0 : RdS kRef w p0_0 x0.fIns) (hp0_1 : RdS kOut w p0_1 x0.fOuts) {r : ByteArray × Int} (H : impl_txText.f k x0 = some r) :
    Calls Tryz.prog 22 ([.agg #[(.int .i64 x0.fKind), (.int .i64 x0.fMember), p0_0, p0_1]] : List Value).toArray w (fun e w_ => ∃ v, e = .returned v ∧ v = (.tuple #[.string r.1, .int .i64 r.2]) ∧ Mem w [] w_ []) := by
  have HM := Mem.start w
  refine calls_run (N := 76) Tryz.func22 rfl rfl rfl rfl ?_
  unfold impl_txText.f at H
  refine run_seq ?_
  refine run_region rfl ?_
  refine od rfl rfl rfl rfl (does_box (cs := [.int .i64 x0.fKind, .int .i64 x0.fMember, p0_0, p0_1]) rfl rfl rfl HM) ?_
  rintro _ w3726 ⟨b3723, rfl, HM⟩
  refine ox rfl rfl rfl rfl (ex_assign rfl rfl) ?_
  refine ox rfl rfl rfl rfl (ex_assign rfl rfl) ?_
  refine ops_nil (at_then (run_seq ?_))
  obtain ⟨t3727, h3728, H⟩ := bind_some H
  obtain ⟨e3731, H⟩ := chk_some H
  refine run_drawf (fun w_ => Mem w [] w_ [box b3723 28 [.int .i64 x0.fKind, .int .i64 x0.fMember, p0_0, p0_1]]) [(1, true), (2, true), (0, false), (3, true), (4, false), (5, false), (6, true)] mixed rfl rfl (by kernel_rfl) ?_
  replace HM := HM.grow (fr_drew _)
  have hS := Mem.suf (M := []) HM
  refine dp rfl rfl rfl rfl (ex_fieldAddr (off' := 0) rfl rfl Tryz.underlying28 rfl tsz2 rfl) hS ?_
  refine drwp_take rfl (guard_none rfl) rfl rfl (fun w_ hS_ => (ex_load1 rfl rfl Tryz.underlying2 rfl ((hS_.box_at 0 rfl) 0 _ rfl))) hS ?_
  refine drwp_one rfl (guard_none rfl) rfl rfl (does_callk rfl callok44 rfl (impl_kindWords.calls h3728)) ?_
  rintro u3729 w3735 ⟨_, rfl, hn⟩
  replace HM : Mem w [] w3735 [own kStr 9 u3729 t3727, box b3723 28 [.int .i64 x0.fKind, .int .i64 x0.fMember, p0_0, p0_1]] := HM.call hn
  have hS := Mem.suf (M := [own kStr 9 u3729 t3727]) HM
  refine ⟨hS, ?_⟩
  refine dp rfl rfl rfl rfl (ex_indexAddr (d := kStr) rfl rfl rfl Tryz.underlying72 tsz9 (HM.own_rd 0 rfl) (idx_lo e3731) (idx_hi e3731)) hS ?_
  refine drwp_one rfl (guard_none rfl) rfl rfl (does_ex (ex_load1 rfl rfl Tryz.underlying9 rfl ((rd_plain (HM.own_rd 0 rfl) e3731) 0 _ rfl))) ?_
  rintro _ _ ⟨rfl, rfl⟩
  refine ⟨hS, ?_⟩
  refine drwp_one rfl (guard_none rfl) rfl rfl (does_lit (e := 9) (cs := [.string (gt t3727 x0.fKind)]) (xs := ([(gt t3727 x0.fKind)] : List ByteArray)) kStr rfl rfl (fun _ => by kernel_rfl) rfl rfl (fun _ _ h => by have h' : _ = [] := h; subst h'; exact (Elems.cons (d := kStr) (x := (gt t3727 x0.fKind)) (f := []) ⟨rfl, rfl⟩ .nil)) HM.emp) ?_
  rintro v3732 w3736 HM
  have hS := Mem.suf (M := [own kStr 9 v3732 ([(gt t3727 x0.fKind)] : List ByteArray), own kStr 9 u3729 t3727]) HM
  refine ⟨hS, ?_⟩
  refine dp rfl rfl rfl rfl (ex_assign rfl rfl) hS ?_
  refine drwp_done ?_
  refine at_then ?_
  obtain ⟨o3758, ho3759, H⟩ := bind_some H
  refine run_mid (fun ρ_ w_ => ∃ v3755 : Value, ∃ a3756 : List ByteArray, a3756 = o3758 ∧ ρ_ = [(1, .pointer (some ⟨b3723, 0, none⟩)), (4, v3755)] ∧ Mem w [] w_ [box b3723 28 [.int .i64 x0.fKind, .int .i64 x0.fMember, p0_0, p0_1], own kStr 9 v3755 a3756]) ?_ ?_
  · clear H
    refine run_seq ?_
    refine run_region rfl ?_
    refine ox rfl rfl rfl rfl (ex_fieldAddr (off' := 0) rfl rfl Tryz.underlying28 rfl tsz2 rfl) ?_
    refine ox rfl rfl rfl rfl (ex_load1 rfl rfl Tryz.underlying2 rfl ((HM.box_at 2 rfl) 0 _ rfl)) ?_
    refine ox rfl rfl rfl rfl (ex_neq rfl rfl rfl) ?_
    refine ops_nil (at_then ?_)
    refine run_cond (b := (x0.fKind != 0)) rfl (fun hb3760 => ?_) (fun hb3760 => ?_)
    · replace ho3759 := cond_t hb3760 ho3759
      obtain ⟨t3761, h3762, ho3759⟩ := bind_some ho3759
      obtain ⟨e3766, ho3759⟩ := chk_some ho3759
      refine run_region rfl ?_
      refine ox rfl rfl rfl rfl (ex_move rfl rfl) ?_
      refine ox rfl rfl rfl rfl (ex_fieldAddr (off' := 1) rfl rfl Tryz.underlying28 rfl tsz2 rfl) ?_
      refine ox rfl rfl rfl rfl (ex_load1 rfl rfl Tryz.underlying2 rfl ((HM.box_at 2 rfl) 1 _ rfl)) ?_
      refine od rfl rfl rfl rfl (does_callk rfl callok48 rfl (impl_dec.calls (x0 := x0.fMember) (HM.tabP htab) h3762)) ?_
      rintro _ w3769 ⟨rfl, hn⟩
      replace HM : Mem w [] w3769 [own kStr 9 v3732 ([(gt t3727 x0.fKind)] : List ByteArray), own kStr 9 u3729 t3727, box b3723 28 [.int .i64 x0.fKind, .int .i64 x0.fMember, p0_0, p0_1]] := HM.call hn
      refine od rfl rfl rfl rfl (does_lit (e := 9) (cs := [.string t3761]) (xs := ([t3761] : List ByteArray)) kStr rfl rfl (fun _ => by kernel_rfl) rfl rfl (fun _ _ h => by have h' : _ = [] := h; subst h'; exact (Elems.cons (d := kStr) (x := t3761) (f := []) ⟨rfl, rfl⟩ .nil)) HM.emp) ?_
      rintro v3763 w3770 HM
      replace HM := HM.front 1 rfl rfl
      refine od rfl rfl rfl rfl (does_appendR kStr flat_plain rfl rfl rfl Tryz.underlying72 tsz9 rfl tby9 tz9 rfl rfl (leB_le e3766) (HM.own_rd 1 rfl) HM) ?_
      rintro v3767 w3771 HM
      refine ox rfl rfl rfl rfl (ex_assign rfl rfl) ?_
      refine ops_nil ?_
      replace HM := (HM.front 1 rfl rfl).drop
      replace HM := (HM.front 1 rfl rfl).drop
      replace HM := HM.front 1 rfl rfl
      exact at_mid (ρ' := [(1, .pointer (some ⟨b3723, 0, none⟩)), (4, v3767)]) ⟨_, _, (Option.some.inj ho3759), rfl, HM⟩ (Sub.cons rfl (Sub.cons rfl Sub.nil))
    · replace ho3759 := cond_f hb3760 ho3759
      refine run_skip ?_
      replace HM := (HM.front 1 rfl rfl).drop
      replace HM := HM.front 1 rfl rfl
      exact at_mid (ρ' := [(1, .pointer (some ⟨b3723, 0, none⟩)), (4, v3732)]) ⟨_, _, (Option.some.inj ho3759), rfl, HM⟩ (Sub.cons rfl (Sub.cons rfl Sub.nil))
  · rintro _ w3772 ⟨v3755, a3756, rfl, rfl, HM⟩
    refine run_seq ?_
    refine run_region rfl ?_
    refine od rfl rfl rfl rfl (does_lit (e := 9) (cs := []) (xs := ([] : List ByteArray)) kStr rfl rfl (fun _ => by kernel_rfl) rfl rfl (fun _ _ h => by have h' : _ = [] := h; subst h'; exact .nil) HM.emp) ?_
    rintro v3773 w3776 HM
    refine ox rfl rfl rfl rfl (ex_assign rfl rfl) ?_
    refine ops_nil (at_then ?_)
    obtain ⟨o3838, ho3839, H⟩ := bind_some H
    refine run_mid (fun ρ_ w_ => ∃ v3835 : Value, ∃ a3836 : List ByteArray, a3836 = o3838 ∧ ρ_ = [(1, .pointer (some ⟨b3723, 0, none⟩)), (4, v3755), (5, v3835)] ∧ Mem w [] w_ [box b3723 28 [.int .i64 x0.fKind, .int .i64 x0.fMember, p0_0, p0_1], own kStr 9 v3755 a3756, own kStr 9 v3835 a3836]) ?_ ?_
    · clear H
      refine run_seq ?_
      refine run_region rfl ?_
      refine ox rfl rfl rfl rfl (ex_fieldAddr (off' := 2) rfl rfl Tryz.underlying28 rfl tsz25 rfl) ?_
      refine ox rfl rfl rfl rfl (ex_load1 rfl rfl Tryz.underlying25 rfl ((HM.box_at 1 rfl) 2 _ rfl)) ?_
      refine ox rfl rfl rfl rfl (ex_len (d := kRef) (xs := x0.fIns) rfl rfl Tryz.underlying25 hp0_0) ?_
      refine ox rfl rfl rfl rfl (ex_move rfl rfl) ?_
      refine ops_nil (at_then ?_)
      refine run_block ?_
      replace HM := HM.front 2 rfl rfl
      replace HM := HM.front 2 rfl rfl
      refine run_loop (fun k_ ρ_ w_ => ∃ v3858 : Value, ∃ a3859 : List ByteArray, ∃ a3861 : Int, impl_txText.l0 x0 k_ a3859 a3861 = some o3838 ∧ ρ_ = [(1, .pointer (some ⟨b3723, 0, none⟩)), (4, v3755), (5, v3858), (28, p0_0), (29, .int .i64 (x0.fIns.length : Int)), (30, .int .i64 a3861)] ∧ Mem w [] w_ [box b3723 28 [.int .i64 x0.fKind, .int .i64 x0.fMember, p0_0, p0_1], own kStr 9 v3755 a3756, own kStr 9 v3858 a3859]) k (ρ1 := [(1, .pointer (some ⟨b3723, 0, none⟩)), (4, v3755), (5, v3773), (28, p0_0), (29, .int .i64 (x0.fIns.length : Int)), (30, .int .i64 0)]) ⟨_, _, _, ho3839, rfl, HM⟩ (Sub.cons rfl (Sub.cons rfl (Sub.cons rfl (Sub.cons rfl (Sub.cons rfl (Sub.cons rfl Sub.nil)))))) ?_
      clear HM ho3839
      rintro k3880 _ w3881 ⟨v3858, a3859, a3861, ho3839, rfl, HM⟩
      obtain _ | k3880 := k3880
      · exact nomatch ((impl_txText.l0_z x0 a3859 a3861).symm.trans ho3839)
      replace ho3839 := (impl_txText.l0_s x0 k3880 a3859 a3861).symm.trans ho3839
      refine run_seq ?_
      refine run_region rfl ?_
      refine ox rfl rfl rfl rfl (ex_lss rfl rfl rfl) ?_
      refine ops_nil (at_then (run_seq ?_))
      refine run_cond (b := (decide (a3861 < (x0.fIns.length : Int)))) rfl (fun hb3882 => ?_) (fun hb3882 => ?_)
      · replace ho3839 := cond_t hb3882 ho3839
        refine run_skip ?_
        refine at_then ?_
        refine run_seq ?_
        refine run_block ?_
        refine run_seq ?_
        obtain ⟨e3883, ho3839⟩ := chk_some ho3839
        refine run_region rfl ?_
        have hc3884 : CellsAt _ (sb p0_0) (so p0_0 + (a3861).toNat * 2) [(.int .i64 ((gt x0.fIns a3861).fTx)), (.int .i64 ((gt x0.fIns a3861).fAt))] := rd_plain hp0_0 e3883
        refine ox rfl rfl rfl rfl (ex_indexAddr (d := kRef) rfl rfl rfl Tryz.underlying25 tsz62 hp0_0 (idx_lo e3883) (idx_hi e3883)) ?_
        refine ox rfl rfl rfl rfl (ex_loadN (cs := [(.int .i64 ((gt x0.fIns a3861).fTx)), (.int .i64 ((gt x0.fIns a3861).fAt))]) rfl rfl Tryz.underlying62 rfl tsz62 rfl ((HM.at_ hc3884).sub 0 2 rfl)) ?_
        refine od rfl rfl rfl rfl (does_alloc (cs := [.int .i64 0, .int .i64 0]) rfl tz62 rfl HM) ?_
        rintro _ w3888 ⟨b3885, rfl, HM⟩
        refine odS rfl rfl rfl (does_store (vs := [.int .i64 ((gt x0.fIns a3861).fTx), .int .i64 ((gt x0.fIns a3861).fAt)]) (cs' := [.int .i64 ((gt x0.fIns a3861).fTx), .int .i64 ((gt x0.fIns a3861).fAt)]) rfl rfl rfl rfl tsz62 (Ones.int (Ones.int Ones.nil)) rfl rfl HM) ?_
        rintro w3889 HM
        refine ops_nil (at_then ?_)
        obtain ⟨t3890, h3891, ho3839⟩ := bind_some ho3839
        obtain ⟨e3892, ho3839⟩ := chk_some ho3839
        obtain ⟨t3893, h3894, ho3839⟩ := bind_some ho3839
        obtain ⟨e3895, ho3839⟩ := chk_some ho3839
        obtain ⟨e3899, ho3839⟩ := chk_some ho3839
        replace HM := HM.front 3 rfl rfl
        refine run_drawf (fun w_ => Mem w [] w_ [box b3885 62 [.int .i64 ((gt x0.fIns a3861).fTx), .int .i64 ((gt x0.fIns a3861).fAt)], box b3723 28 [.int .i64 x0.fKind, .int .i64 x0.fMember, p0_0, p0_1], own kStr 9 v3755 a3756]) [(0, true), (1, true), (2, true), (5, true), (6, true), (3, false), (4, true), (7, false), (8, true), (9, false), (10, false), (11, true)] mixed rfl rfl (by kernel_rfl) ?_
        replace HM := HM.grow (fr_drew _)
        have hS := Mem.suf (M := [own kStr 9 v3858 a3859]) HM
        refine dp rfl rfl rfl rfl (ex_move rfl rfl) hS ?_
        refine dp rfl rfl rfl rfl (ex_fieldAddr (off' := 0) rfl rfl Tryz.underlying62 rfl tsz2 rfl) hS ?_
        refine drwp_take rfl (guard_none rfl) rfl rfl (fun w_ hS_ => (ex_load1 rfl rfl Tryz.underlying2 rfl ((hS_.box_at 0 rfl) 0 _ rfl))) hS ?_
        refine dp rfl rfl rfl rfl (ex_fieldAddr (off' := 1) rfl rfl Tryz.underlying62 rfl tsz2 rfl) hS ?_
        refine drwp_take rfl (guard_none rfl) rfl rfl (fun w_ hS_ => (ex_load1 rfl rfl Tryz.underlying2 rfl ((hS_.box_at 0 rfl) 1 _ rfl))) hS ?_
        refine drwp_one rfl (guard_none rfl) rfl rfl (does_callk rfl callok48 rfl (impl_dec.calls (x0 := (gt x0.fIns a3861).fTx) (HM.tabP htab) h3891)) ?_
        rintro _ w3902 ⟨rfl, hn⟩
        replace HM : Mem w [] w3902 [own kStr 9 v3858 a3859, box b3885 62 [.int .i64 ((gt x0.fIns a3861).fTx), .int .i64 ((gt x0.fIns a3861).fAt)], box b3723 28 [.int .i64 x0.fKind, .int .i64 x0.fMember, p0_0, p0_1], own kStr 9 v3755 a3756] := HM.call hn
        have hS := Mem.suf (M := [own kStr 9 v3858 a3859]) HM
        refine ⟨hS, ?_⟩
        refine dp rfl rfl rfl rfl (ex_sadd rfl rfl rfl (leB_le e3892)) hS ?_
        refine drwp_one rfl (guard_none rfl) rfl rfl (does_callk rfl callok48 rfl (impl_dec.calls (x0 := (gt x0.fIns a3861).fAt) (HM.tabP htab) h3894)) ?_
        rintro _ w3903 ⟨rfl, hn⟩
        replace HM : Mem w [] w3903 [own kStr 9 v3858 a3859, box b3885 62 [.int .i64 ((gt x0.fIns a3861).fTx), .int .i64 ((gt x0.fIns a3861).fAt)], box b3723 28 [.int .i64 x0.fKind, .int .i64 x0.fMember, p0_0, p0_1], own kStr 9 v3755 a3756] := HM.call hn
        have hS := Mem.suf (M := [own kStr 9 v3858 a3859]) HM
        refine ⟨hS, ?_⟩
        refine dp rfl rfl rfl rfl (ex_sadd rfl rfl rfl (leB_le e3895)) hS ?_
        refine drwp_one rfl (guard_none rfl) rfl rfl (does_lit (e := 9) (cs := [.string ((t3890 ++ (⟨#[58]⟩ : ByteArray)) ++ t3893)]) (xs := ([(t3890 ++ (⟨#[58]⟩ : ByteArray)) ++ t3893] : List ByteArray)) kStr rfl rfl (fun _ => by kernel_rfl) rfl rfl (fun _ _ h => by have h' : _ = [] := h; subst h'; exact (Elems.cons (d := kStr) (x := (t3890 ++ (⟨#[58]⟩ : ByteArray)) ++ t3893) (f := []) ⟨rfl, rfl⟩ .nil)) HM.emp) ?_
        rintro v3896 w3904 HM
        have hS := Mem.suf (M := [own kStr 9 v3896 ([(t3890 ++ (⟨#[58]⟩ : ByteArray)) ++ t3893] : List ByteArray), own kStr 9 v3858 a3859]) HM
        refine ⟨hS, ?_⟩
        replace HM := HM.front 1 rfl rfl
        refine drwp_one rfl (guard_none rfl) rfl rfl (does_appendR kStr flat_plain rfl rfl rfl Tryz.underlying72 tsz9 rfl tby9 tz9 rfl rfl (leB_le e3899) (HM.own_rd 1 rfl) HM) ?_
        rintro v3900 w3905 HM
        have hS := Mem.suf (M := [own kStr 9 v3900 (a3859 ++ ([(t3890 ++ (⟨#[58]⟩ : ByteArray)) ++ t3893] : List ByteArray)), own kStr 9 v3896 ([(t3890 ++ (⟨#[58]⟩ : ByteArray)) ++ t3893] : List ByteArray)]) HM
        refine ⟨hS, ?_⟩
        refine dp rfl rfl rfl rfl (ex_assign rfl rfl) hS ?_
        refine drwp_done ?_
        refine at_block ?_
        refine at_then ?_
        refine run_region rfl ?_
        refine ox rfl rfl rfl rfl (ex_add rfl rfl rfl) ?_
        refine ox rfl rfl rfl rfl (ex_move rfl rfl) ?_
        refine ops_nil ?_
        replace HM := (HM.front 1 rfl rfl).drop
        replace HM := (HM.front 1 rfl rfl).drop
        replace HM := HM.front 2 rfl rfl
        replace HM := HM.front 2 rfl rfl
        exact at_again k3880 (ρ1 := [(1, .pointer (some ⟨b3723, 0, none⟩)), (4, v3755), (5, v3900), (28, p0_0), (29, .int .i64 (x0.fIns.length : Int)), (30, .int .i64 (wrap64 (a3861 + 1)))]) (Nat.lt_succ_self _) ⟨_, _, _, ho3839, rfl, HM⟩ (Sub.cons rfl (Sub.cons rfl (Sub.cons rfl (Sub.cons rfl (Sub.cons rfl (Sub.cons rfl Sub.nil))))))
      · replace ho3839 := cond_f hb3882 ho3839
        refine run_exit ?_
        refine at_then_exit ?_
        refine at_then_exit ?_
        refine at_block_exit ?_
        exact at_mid (ρ' := [(1, .pointer (some ⟨b3723, 0, none⟩)), (4, v3755), (5, v3858)]) ⟨_, _, (Option.some.inj ho3839), rfl, HM⟩ (Sub.cons rfl (Sub.cons rfl (Sub.cons rfl Sub.nil)))
    · rintro _ w3906 ⟨v3835, a3836, rfl, rfl, HM⟩
      refine run_seq ?_
      obtain ⟨t3907, h3908, H⟩ := bind_some H
      obtain ⟨e3912, H⟩ := chk_some H
      refine run_region rfl ?_
      refine ox rfl rfl rfl rfl (ex_move rfl rfl) ?_
      refine ox rfl rfl rfl rfl (ex_move rfl rfl) ?_
      refine od rfl rfl rfl rfl (does_callk rfl callok49 rfl (strings_Join.calls (x0 := a3836) (x1 := (⟨#[43]⟩ : ByteArray)) (HM.own_rd 2 rfl) h3908)) ?_
      rintro _ w3915 ⟨rfl, hn⟩
      replace HM : Mem w [] w3915 [box b3723 28 [.int .i64 x0.fKind, .int .i64 x0.fMember, p0_0, p0_1], own kStr 9 v3755 a3756, own kStr 9 v3835 a3836] := HM.call hn
      refine od rfl rfl rfl rfl (does_lit (e := 9) (cs := [.string t3907]) (xs := ([t3907] : List ByteArray)) kStr rfl rfl (fun _ => by kernel_rfl) rfl rfl (fun _ _ h => by have h' : _ = [] := h; subst h'; exact (Elems.cons (d := kStr) (x := t3907) (f := []) ⟨rfl, rfl⟩ .nil)) HM.emp) ?_
      rintro v3909 w3916 HM
      replace HM := HM.front 2 rfl rfl
      refine od rfl rfl rfl rfl (does_appendR kStr flat_plain rfl rfl rfl Tryz.underlying72 tsz9 rfl tby9 tz9 rfl rfl (leB_le e3912) (HM.own_rd 1 rfl) HM) ?_
      rintro v3913 w3917 HM
      refine ox rfl rfl rfl rfl (ex_assign rfl rfl) ?_
      refine ops_nil (at_then ?_)
      obtain ⟨o3985, ho3986, H⟩ := bind_some H
      refine run_mid (fun ρ_ w_ => ∃ v3982 : Value, ∃ a3983 : List ByteArray, a3983 = o3985 ∧ ρ_ = [(4, v3982)] ∧ Mem w [] w_ [own kStr 9 v3982 a3983]) ?_ ?_
      · clear H
        refine run_seq ?_
        refine run_region rfl ?_
        refine ox rfl rfl rfl rfl (ex_fieldAddr (off' := 3) rfl rfl Tryz.underlying28 rfl tsz26 rfl) ?_
        refine ox rfl rfl rfl rfl (ex_load1 rfl rfl Tryz.underlying26 rfl ((HM.box_at 2 rfl) 3 _ rfl)) ?_
        refine ox rfl rfl rfl rfl (ex_len (d := kOut) (xs := x0.fOuts) rfl rfl Tryz.underlying26 hp0_1) ?_
        refine ox rfl rfl rfl rfl (ex_move rfl rfl) ?_
        refine ops_nil (at_then ?_)
        refine run_block ?_
        replace HM := (HM.front 1 rfl rfl).drop
        replace HM := (HM.front 1 rfl rfl).drop
        replace HM := (HM.front 1 rfl rfl).drop
        refine run_loop (fun k_ ρ_ w_ => ∃ v4007 : Value, ∃ a4008 : List ByteArray, ∃ a4010 : Int, impl_txText.l1 x0 k_ a4008 a4010 = some o3985 ∧ ρ_ = [(4, v4007), (52, p0_1), (53, .int .i64 (x0.fOuts.length : Int)), (54, .int .i64 a4010)] ∧ Mem w [] w_ [own kStr 9 v4007 a4008]) k (ρ1 := [(4, v3913), (52, p0_1), (53, .int .i64 (x0.fOuts.length : Int)), (54, .int .i64 0)]) ⟨_, _, _, ho3986, rfl, HM⟩ (Sub.cons rfl (Sub.cons rfl (Sub.cons rfl (Sub.cons rfl Sub.nil)))) ?_
        clear HM ho3986
        rintro k4031 _ w4032 ⟨v4007, a4008, a4010, ho3986, rfl, HM⟩
        obtain _ | k4031 := k4031
        · exact nomatch ((impl_txText.l1_z x0 a4008 a4010).symm.trans ho3986)
        replace ho3986 := (impl_txText.l1_s x0 k4031 a4008 a4010).symm.trans ho3986
        refine run_seq ?_
        refine run_region rfl ?_
        refine ox rfl rfl rfl rfl (ex_lss rfl rfl rfl) ?_
        refine ops_nil (at_then (run_seq ?_))
        refine run_cond (b := (decide (a4010 < (x0.fOuts.length : Int)))) rfl (fun hb4033 => ?_) (fun hb4033 => ?_)
        · replace ho3986 := cond_t hb4033 ho3986
          refine run_skip ?_
          refine at_then ?_
          refine run_seq ?_
          refine run_block ?_
          refine run_seq ?_
          obtain ⟨e4034, ho3986⟩ := chk_some ho3986
          refine run_region rfl ?_
          obtain ⟨kv4036, hc4035, hk4037⟩ : ∃ u, CellsAt _ (sb p0_1) (so p0_1 + (a4010).toNat * 4) [(.int .i64 ((gt x0.fOuts a4010).fValue)), u, (.int .i64 ((gt x0.fOuts a4010).fRule.fNeed)), (.int .i64 ((gt x0.fOuts a4010).fRule.fAfter))] ∧ RdS kInt _ u ((gt x0.fOuts a4010).fRule.fKeys) := rd_with1 hp0_1 e4034
          refine ox rfl rfl rfl rfl (ex_indexAddr (d := kOut) rfl rfl rfl Tryz.underlying26 tsz44 hp0_1 (idx_lo e4034) (idx_hi e4034)) ?_
          refine ox rfl rfl rfl rfl (ex_loadN (cs := [(.int .i64 ((gt x0.fOuts a4010).fValue)), kv4036, (.int .i64 ((gt x0.fOuts a4010).fRule.fNeed)), (.int .i64 ((gt x0.fOuts a4010).fRule.fAfter))]) rfl rfl Tryz.underlying44 rfl tsz44 rfl ((HM.at_ hc4035).sub 0 4 rfl)) ?_
          refine od rfl rfl rfl rfl (does_alloc (cs := [.int .i64 0, .slice none 0 0, .int .i64 0, .int .i64 0]) rfl tz44 rfl HM) ?_
          rintro _ w4041 ⟨b4038, rfl, HM⟩
          refine odS rfl rfl rfl (does_store (vs := [.int .i64 ((gt x0.fOuts a4010).fValue), kv4036, .int .i64 ((gt x0.fOuts a4010).fRule.fNeed), .int .i64 ((gt x0.fOuts a4010).fRule.fAfter)]) (cs' := [.int .i64 ((gt x0.fOuts a4010).fValue), kv4036, .int .i64 ((gt x0.fOuts a4010).fRule.fNeed), .int .i64 ((gt x0.fOuts a4010).fRule.fAfter)]) rfl rfl rfl rfl tsz44 (Ones.int (Ones.rd hk4037 (Ones.int (Ones.int Ones.nil)))) rfl rfl HM) ?_
          rintro w4042 HM
          refine ops_nil (at_then ?_)
          obtain ⟨t4043, h4044, ho3986⟩ := bind_some ho3986
          obtain ⟨e4045, ho3986⟩ := chk_some ho3986
          obtain ⟨t4046, h4047, ho3986⟩ := bind_some ho3986
          obtain ⟨e4048, ho3986⟩ := chk_some ho3986
          obtain ⟨e4052, ho3986⟩ := chk_some ho3986
          replace HM := HM.front 1 rfl rfl
          refine run_drawf (fun w_ => Mem w [] w_ [box b4038 44 [.int .i64 ((gt x0.fOuts a4010).fValue), kv4036, .int .i64 ((gt x0.fOuts a4010).fRule.fNeed), .int .i64 ((gt x0.fOuts a4010).fRule.fAfter)]]) [(0, true), (1, true), (2, true), (5, true), (6, true), (3, false), (4, true), (7, false), (8, true), (9, false), (10, false), (11, true)] mixed rfl rfl (by kernel_rfl) ?_
          replace HM := HM.grow (fr_drew _)
          have hS := Mem.suf (M := [own kStr 9 v4007 a4008]) HM
          refine dp rfl rfl rfl rfl (ex_move rfl rfl) hS ?_
          refine dp rfl rfl rfl rfl (ex_fieldAddr (off' := 0) rfl rfl Tryz.underlying44 rfl tsz2 rfl) hS ?_
          refine drwp_take rfl (guard_none rfl) rfl rfl (fun w_ hS_ => (ex_load1 rfl rfl Tryz.underlying2 rfl ((hS_.box_at 0 rfl) 0 _ rfl))) hS ?_
          refine dp rfl rfl rfl rfl (ex_fieldAddr (off' := 1) rfl rfl Tryz.underlying44 rfl tsz42 rfl) hS ?_
          refine drwp_take rfl (guard_none rfl) rfl rfl (fun w_ hS_ => (ex_loadN (cs := [kv4036, (.int .i64 ((gt x0.fOuts a4010).fRule.fNeed)), (.int .i64 ((gt x0.fOuts a4010).fRule.fAfter))]) rfl rfl Tryz.underlying42 rfl tsz42 rfl ((hS_.box_at 0 rfl).sub 1 3 rfl))) hS ?_
          refine drwp_one rfl (guard_none rfl) rfl rfl (does_callk rfl callok48 rfl (impl_dec.calls (x0 := (gt x0.fOuts a4010).fValue) (HM.tabP htab) h4044)) ?_
          rintro _ w4055 ⟨rfl, hn⟩
          replace HM : Mem w [] w4055 [own kStr 9 v4007 a4008, box b4038 44 [.int .i64 ((gt x0.fOuts a4010).fValue), kv4036, .int .i64 ((gt x0.fOuts a4010).fRule.fNeed), .int .i64 ((gt x0.fOuts a4010).fRule.fAfter)]] := HM.call hn
          have hS := Mem.suf (M := [own kStr 9 v4007 a4008]) HM
          refine ⟨hS, ?_⟩
          refine dp rfl rfl rfl rfl (ex_sadd rfl rfl rfl (leB_le e4045)) hS ?_
          refine drwp_one rfl (guard_none rfl) rfl rfl (does_callk rfl callok50 rfl (impl_ruleText.calls (x0 := (gt x0.fOuts a4010).fRule) (x1 := (⟨#[95]⟩ : ByteArray)) (HM.tabP htab) (HM.rd hk4037) h4047)) ?_
          rintro _ w4056 ⟨rfl, hn⟩
          replace HM : Mem w [] w4056 [own kStr 9 v4007 a4008, box b4038 44 [.int .i64 ((gt x0.fOuts a4010).fValue), kv4036, .int .i64 ((gt x0.fOuts a4010).fRule.fNeed), .int .i64 ((gt x0.fOuts a4010).fRule.fAfter)]] := HM.call hn
          have hS := Mem.suf (M := [own kStr 9 v4007 a4008]) HM
          refine ⟨hS, ?_⟩
          refine dp rfl rfl rfl rfl (ex_sadd rfl rfl rfl (leB_le e4048)) hS ?_
          refine drwp_one rfl (guard_none rfl) rfl rfl (does_lit (e := 9) (cs := [.string ((t4043 ++ (⟨#[61]⟩ : ByteArray)) ++ t4046)]) (xs := ([(t4043 ++ (⟨#[61]⟩ : ByteArray)) ++ t4046] : List ByteArray)) kStr rfl rfl (fun _ => by kernel_rfl) rfl rfl (fun _ _ h => by have h' : _ = [] := h; subst h'; exact (Elems.cons (d := kStr) (x := (t4043 ++ (⟨#[61]⟩ : ByteArray)) ++ t4046) (f := []) ⟨rfl, rfl⟩ .nil)) HM.emp) ?_
          rintro v4049 w4057 HM
          have hS := Mem.suf (M := [own kStr 9 v4049 ([(t4043 ++ (⟨#[61]⟩ : ByteArray)) ++ t4046] : List ByteArray), own kStr 9 v4007 a4008]) HM
          refine ⟨hS, ?_⟩
          replace HM := HM.front 1 rfl rfl
          refine drwp_one rfl (guard_none rfl) rfl rfl (does_appendR kStr flat_plain rfl rfl rfl Tryz.underlying72 tsz9 rfl tby9 tz9 rfl rfl (leB_le e4052) (HM.own_rd 1 rfl) HM) ?_
          rintro v4053 w4058 HM
          have hS := Mem.suf (M := [own kStr 9 v4053 (a4008 ++ ([(t4043 ++ (⟨#[61]⟩ : ByteArray)) ++ t4046] : List ByteArray)), own kStr 9 v4049 ([(t4043 ++ (⟨#[61]⟩ : ByteArray)) ++ t4046] : List ByteArray)]) HM
          refine ⟨hS, ?_⟩
          refine dp rfl rfl rfl rfl (ex_assign rfl rfl) hS ?_
          refine drwp_done ?_
          refine at_block ?_
          refine at_then ?_
          refine run_region rfl ?_
          refine ox rfl rfl rfl rfl (ex_add rfl rfl rfl) ?_
          refine ox rfl rfl rfl rfl (ex_move rfl rfl) ?_
          refine ops_nil ?_
          replace HM := (HM.front 1 rfl rfl).drop
          replace HM := (HM.front 1 rfl rfl).drop
          exact at_again k4031 (ρ1 := [(4, v4053), (52, p0_1), (53, .int .i64 (x0.fOuts.length : Int)), (54, .int .i64 (wrap64 (a4010 + 1)))]) (Nat.lt_succ_self _) ⟨_, _, _, ho3986, rfl, HM⟩ (Sub.cons rfl (Sub.cons rfl (Sub.cons rfl (Sub.cons rfl Sub.nil))))
        · replace ho3986 := cond_f hb4033 ho3986
          refine run_exit ?_
          refine at_then_exit ?_
          refine at_then_exit ?_
          refine at_block_exit ?_
          exact at_mid (ρ' := [(4, v4007)]) ⟨_, _, (Option.some.inj ho3986), rfl, HM⟩ (Sub.cons rfl Sub.nil)
      · rintro _ w4059 ⟨v3982, a3983, rfl, rfl, HM⟩
        refine run_seq ?_
        obtain ⟨t4060, h4061, H⟩ := bind_some H
        refine run_region rfl ?_
        refine ox rfl rfl rfl rfl (ex_move rfl rfl) ?_
        refine od rfl rfl rfl rfl (does_callk rfl callok49 rfl (strings_Join.calls (x0 := a3983) (x1 := (⟨#[32]⟩ : ByteArray)) (HM.own_rd 0 rfl) h4061)) ?_
        rintro _ w4062 ⟨rfl, hn⟩
        replace HM : Mem w [] w4062 [own kStr 9 v3982 a3983] := HM.call hn
        refine ox rfl rfl rfl rfl (ex_assign rfl rfl) ?_
        refine ops_nil (at_then (run_seq ?_))
        refine run_seq ?_
        refine run_region rfl ?_
        refine ox rfl rfl rfl rfl (ex_move rfl rfl) ?_
        refine ox rfl rfl rfl rfl (ex_strlen rfl rfl Tryz.underlying9) ?_
        refine ox rfl rfl rfl rfl (ex_gtr rfl rfl rfl) ?_
        refine ops_nil (at_then ?_)
        refine run_cond (b := (decide (300 < (t4060.size : Int)))) rfl (fun hb4063 => ?_) (fun hb4063 => ?_)
        · replace H := cond_t hb4063 H
          refine run_seq ?_
          refine run_region rfl ?_
          refine ox rfl rfl rfl rfl (ex_assign rfl rfl) ?_
          refine ox rfl rfl rfl rfl (ex_assign rfl rfl) ?_
          refine ops_nil (at_then ?_)
          refine run_ret ?_
          refine at_then_ret ?_
          replace HM := (HM.front 0 rfl rfl).drop
          have hR := Option.some.inj H
          subst hR
          exact at_ret2 rfl rfl rfl ⟨_, rfl, rfl, HM⟩
        · replace H := cond_f hb4063 H
          refine run_skip ?_
          refine at_then ?_
          refine run_seq ?_
          refine run_region rfl ?_
          refine ox rfl rfl rfl rfl (ex_move rfl rfl) ?_
          refine ox rfl rfl rfl rfl (ex_assign rfl rfl) ?_
          refine ox rfl rfl rfl rfl (ex_assign rfl rfl) ?_
          refine ops_nil (at_then ?_)
          refine run_ret ?_
          replace HM := (HM.front 0 rfl rfl).drop
          have hR := Option.some.inj H
          subst hR
          exact at_ret2 rfl rfl rfl ⟨_, rfl, rfl, HM⟩

def impl_readTx.l0 (t4233 : List ByteArray) : Nat → (List Ref) → Int → Option ((List Ref))
  | 0, _, _ => none
  | k + 1, a4253, a4255 => (bif (decide (a4255 < (t4233.length : Int))) then (chk (idxOk a4255 t4233.length) ((strings_Cut.f k (gt t4233 a4255) (⟨#[58]⟩ : ByteArray)).bind fun t4275 => ((impl_number.f k t4275.1).bind fun t4278 => ((impl_number.f k t4275.2.1).bind fun t4280 => (chk (leB ((a4253.length + ([(⟨t4278, t4280⟩ : Ref)] : List Ref).length) * 16) 140737488355328) (impl_readTx.l0 t4233 k (a4253 ++ ([(⟨t4278, t4280⟩ : Ref)] : List Ref)) (wrap64 (a4255 + 1)))))))) else some a4253)
theorem impl_readTx.l0_z (t4233 : List ByteArray) (a4253 : List Ref) (a4255 : Int) : impl_readTx.l0 t4233 0 a4253 a4255 = none := rfl
theorem impl_readTx.l0_s (t4233 : List ByteArray) (k : Nat) (a4253 : List Ref) (a4255 : Int) : impl_readTx.l0 t4233 (k + 1) a4253 a4255 = (bif (decide (a4255 < (t4233.length : Int))) then (chk (idxOk a4255 t4233.length) ((strings_Cut.f k (gt t4233 a4255) (⟨#[58]⟩ : ByteArray)).bind fun t4275 => ((impl_number.f k t4275.1).bind fun t4278 => ((impl_number.f k t4275.2.1).bind fun t4280 => (chk (leB ((a4253.length + ([(⟨t4278, t4280⟩ : Ref)] : List Ref).length) * 16) 140737488355328) (impl_readTx.l0 t4233 k (a4253 ++ ([(⟨t4278, t4280⟩ : Ref)] : List Ref)) (wrap64 (a4255 + 1)))))))) else some a4253) := rfl
def impl_readTx.l1 (a4146 : List ByteArray) : Nat → (List Out) → Int → Option ((Tx × Bool) ⊕ ((List Out)))
  | 0, _, _ => none
  | k + 1, a4402, a4404 => (bif (decide (a4404 < ((a4146.drop ((1 : Int)).toNat).length : Int))) then (chk (idxOk a4404 (a4146.drop ((1 : Int)).toNat).length) ((impl_readOut.f k (gt (a4146.drop ((1 : Int)).toNat) a4404)).bind fun t4429 => (bif !t4429.2 then some (.inl ((⟨0, 0, ([] : List Ref), ([] : List Out)⟩ : Tx), false)) else (chk (leB ((a4402.length + ([(⟨t4429.1.fValue, (⟨t4429.1.fRule.fKeys, t4429.1.fRule.fNeed, t4429.1.fRule.fAfter⟩ : Rule)⟩ : Out)] : List Out).length) * 48) 140737488355328) (impl_readTx.l1 a4146 k (a4402 ++ ([(⟨t4429.1.fValue, (⟨t4429.1.fRule.fKeys, t4429.1.fRule.fNeed, t4429.1.fRule.fAfter⟩ : Rule)⟩ : Out)] : List Out)) (wrap64 (a4404 + 1))))))) else some (.inr a4402))
theorem impl_readTx.l1_z (a4146 : List ByteArray) (a4402 : List Out) (a4404 : Int) : impl_readTx.l1 a4146 0 a4402 a4404 = none := rfl
theorem impl_readTx.l1_s (a4146 : List ByteArray) (k : Nat) (a4402 : List Out) (a4404 : Int) : impl_readTx.l1 a4146 (k + 1) a4402 a4404 = (bif (decide (a4404 < ((a4146.drop ((1 : Int)).toNat).length : Int))) then (chk (idxOk a4404 (a4146.drop ((1 : Int)).toNat).length) ((impl_readOut.f k (gt (a4146.drop ((1 : Int)).toNat) a4404)).bind fun t4429 => (bif !t4429.2 then some (.inl ((⟨0, 0, ([] : List Ref), ([] : List Out)⟩ : Tx), false)) else (chk (leB ((a4402.length + ([(⟨t4429.1.fValue, (⟨t4429.1.fRule.fKeys, t4429.1.fRule.fNeed, t4429.1.fRule.fAfter⟩ : Rule)⟩ : Out)] : List Out).length) * 48) 140737488355328) (impl_readTx.l1 a4146 k (a4402 ++ ([(⟨t4429.1.fValue, (⟨t4429.1.fRule.fKeys, t4429.1.fRule.fNeed, t4429.1.fRule.fAfter⟩ : Rule)⟩ : Out)] : List Out)) (wrap64 (a4404 + 1))))))) else some (.inr a4402)) := rfl
def impl_readTx.f (k : Nat) (x0 : ByteArray) : Option (Tx × Bool) := ((strings_Split.f k x0 (⟨#[32]⟩ : ByteArray)).bind fun t4070 => (chk (idxOk (0 : Int) t4070.length) ((impl_kindWords.f k).bind fun t4085 => ((slices_Index_string.f k t4085 (gt t4070 (0 : Int))).bind fun t4089 => (bif ((decide (300 < (x0.size : Int))) || (decide (t4089 < 0))) then some ((⟨0, 0, ([] : List Ref), ([] : List Out)⟩ : Tx), false) else (chk (cutOk (1 : Int) t4070.length) ((bif ((t4089 != 0) && (decide (0 < ((t4070.drop ((1 : Int)).toNat).length : Int)))) then (chk (idxOk (0 : Int) (t4070.drop ((1 : Int)).toNat).length) ((impl_number.f k (gt (t4070.drop ((1 : Int)).toNat) (0 : Int))).bind fun t4157 => (chk (cutOk (1 : Int) (t4070.drop ((1 : Int)).toNat).length) (some ((t4070.drop ((1 : Int)).toNat).drop ((1 : Int)).toNat, t4157))))) else some (t4070.drop ((1 : Int)).toNat, 0)).bind (cur2 (fun a4146 a4148 => (bif ((decide ((a4146.length : Int) < 2)) || (decide (5 < (a4146.length : Int)))) then some ((⟨0, 0, ([] : List Ref), ([] : List Out)⟩ : Tx), false) else ((chk (idxOk (0 : Int) a4146.length) ((strings_Split.f k (gt a4146 (0 : Int)) (⟨#[43]⟩ : ByteArray)).bind fun t4233 => impl_readTx.l0 t4233 k ([] : List Ref) 0)).bind (fun a4227 => ((chk (cutOk (1 : Int) a4146.length) (impl_readTx.l1 a4146 k ([] : List Out) 0)).bind fun o4377 => thn o4377 (fun r => some r) (fun a4375 => ((impl_TxFault.f k (⟨t4089, a4148, a4227, a4375⟩ : Tx)).bind fun t4457 => (bif (t4457 != 0) then some ((⟨0, 0, ([] : List Ref), ([] : List Out)⟩ : Tx), false) else ((impl_txText.f k (⟨t4089, a4148, a4227, a4375⟩ : Tx)).bind fun t4464 => some ((⟨t4089, a4148, a4227, a4375⟩ : Tx), ((t4464.2 == 0) && (sEq t4464.1 x0))))))))))))))))))))
theorem impl_readTx.calls {k : Nat} {x0 : ByteArray}  {w : World} (htab : TabP w)  {r : Tx × Bool} (H : impl_readTx.f k x0 = some r) :
    Calls Tryz.prog 21 ([.string x0] : List Value).toArray w (fun e w_ => ∃ v, e = .returned v ∧ ∃ u0 : Value, ∃ u1 : Value, v = (.tuple #[.agg #[.int .i64 r.1.fKind, .int .i64 r.1.fMember, u0, u1], .bool r.2]) ∧ Mem w [] w_ [own kRef 62 u0 r.1.fIns, own kOut 44 u1 r.1.fOuts]) := by
  have HM := Mem.start w
  refine calls_run (N := 125) Tryz.func21 rfl rfl rfl rfl ?_
  unfold impl_readTx.f at H
  refine run_seq ?_
  refine run_region rfl ?_
  refine od rfl rfl rfl rfl (does_alloc (cs := [.int .i64 0, .int .i64 0, .slice none 0 0, .slice none 0 0]) rfl tz28 rfl HM) ?_
  rintro _ w4069 ⟨b4066, rfl, HM⟩
  refine ox rfl rfl rfl rfl (ex_assign rfl rfl) ?_
  refine ops_nil (at_then (run_seq ?_))
  obtain ⟨t4070, h4071, H⟩ := bind_some H
  refine run_region rfl ?_
  refine ox rfl rfl rfl rfl (ex_move rfl rfl) ?_
  refine od rfl rfl rfl rfl (does_callk rfl callok42 rfl (strings_Split.calls (x0 := x0) (x1 := (⟨#[32]⟩ : ByteArray)) (HM.tabP htab) h4071)) ?_
  rintro u4072 w4074 ⟨_, rfl, hn⟩
  replace HM : Mem w [] w4074 [own kStr 9 u4072 t4070, box b4066 28 [.int .i64 0, .int .i64 0, .slice none 0 0, .slice none 0 0]] := HM.call hn
  refine ox rfl rfl rfl rfl (ex_assign rfl rfl) ?_
  refine ops_nil ?_
  replace HM := HM.front 1 rfl rfl
  obtain ⟨F4075, hF4076, hFn4077, hFl4078, HMh4079, hcl4080⟩ := HM.hide (Ms := [box b4066 28 [.int .i64 0, .int .i64 0, .slice none 0 0, .slice none 0 0]])
  have hz18 := (HMh4079.own_rd 0 rfl)
  replace htab := HMh4079.tabP htab
  have hwo := hide_olds w4074 F4075
  generalize hideB w4074 F4075 = wz4081 at *
  have HM := Mem.startX hF4076 hFn4077 hFl4078
  refine at_then ?_
  refine run_seq ?_
  obtain ⟨e4083, H⟩ := chk_some H
  obtain ⟨t4085, h4086, H⟩ := bind_some H
  obtain ⟨t4089, h4090, H⟩ := bind_some H
  refine run_meet (fun ρ_ w_ => ∃ b4091 : Nat, ρ_ = [(0, .string x0), (2, .pointer (some ⟨b4066, 0, none⟩)), (4, u4072), (5, .pointer (some ⟨b4091, 0, none⟩))] ∧ Mem w4074 F4075 w_ [box b4066 28 [.int .i64 0, .int .i64 0, .slice none 0 0, .slice none 0 0], box b4091 28 [.int .i64 t4089, .int .i64 0, .slice none 0 0, .slice none 0 0]]) ?_ ?_
  · skip
    refine run_draw (fun w_ => Mem w4074 F4075 w_ [box b4066 28 [.int .i64 0, .int .i64 0, .slice none 0 0, .slice none 0 0]]) mixed rfl (l := #[false, false, false, false, false, false, false, false]) rfl ?_
    replace HM := HM.grow (fr_drew _)
    have hS := Mem.suf (M := []) HM
    refine drw_cut2 (l' := #[true, true, true, true, true, true, true, false]) (f' := 1) (fun (u4087 : Value) => fun (b4091 : Nat) => [(0, .string x0), (2, .pointer (some ⟨b4066, 0, none⟩)), (4, u4072), (24, .agg #[(.int .i64 t4089), (.int .i64 0), (.slice none 0 0), (.slice none 0 0)]), (5, .pointer (some ⟨b4091, 0, none⟩))]) (fun (u4087 : Value) => fun (b4091 : Nat) => fun w_ => Mem w4074 F4075 w_ [box b4091 28 [.int .i64 0, .int .i64 0, .slice none 0 0, .slice none 0 0], own kStr 9 u4087 t4085, box b4066 28 [.int .i64 0, .int .i64 0, .slice none 0 0, .slice none 0 0]]) ?_ (fun K4102 => ?_)
    · rintro u4087 b4091 w4103 HM
      replace HM : Mem w4074 F4075 w4103 [box b4091 28 [.int .i64 0, .int .i64 0, .slice none 0 0, .slice none 0 0], own kStr 9 u4087 t4085, box b4066 28 [.int .i64 0, .int .i64 0, .slice none 0 0, .slice none 0 0]] := HM
      have hc4084 : CellsAt _ (sb u4072) (so u4072 + ((0 : Int)).toNat * 1) [(.string (gt t4070 (0 : Int)))] := rd_plain hz18 e4083
      have hS := Mem.suf (M := [box b4091 28 [.int .i64 0, .int .i64 0, .slice none 0 0, .slice none 0 0], own kStr 9 u4087 t4085]) HM
      refine drw_any [7] (by kernel_rfl) rfl (.cons ?_ .nil)
      refine br_doesS (l' := #[true, true, true, true, true, true, true, true]) rfl (guard_none rfl) rfl (by kernel_rfl) (does_store (vs := [.int .i64 t4089, .int .i64 0, .slice none 0 0, .slice none 0 0]) (cs' := [.int .i64 t4089, .int .i64 0, .slice none 0 0, .slice none 0 0]) rfl rfl rfl rfl tsz28 (Ones.int (Ones.int (Ones.sl (Ones.sl Ones.nil)))) rfl rfl HM) ?_
      rintro w4104 HM
      have hS := Mem.suf (M := [box b4091 28 [.int .i64 t4089, .int .i64 0, .slice none 0 0, .slice none 0 0], own kStr 9 u4087 t4085]) HM
      refine ⟨hS, ?_⟩
      refine drw_done (by kernel_rfl) ?_
      replace HM := (HM.front 1 rfl rfl).drop
      replace HM := HM.front 1 rfl rfl
      exact at_meet [(0, .string x0), (2, .pointer (some ⟨b4066, 0, none⟩)), (4, u4072), (5, .pointer (some ⟨b4091, 0, none⟩))] ⟨_, rfl, HM⟩ (Sub.cons rfl (Sub.cons rfl (Sub.cons rfl (Sub.cons rfl Sub.nil))))
    refine drw_cut2 (l' := #[true, true, true, true, false, false, true, false]) (f' := 3) (fun (u4087 : Value) => fun (b4091 : Nat) => [(0, .string x0), (2, .pointer (some ⟨b4066, 0, none⟩)), (4, u4072), (22, .string (gt t4070 (0 : Int))), (19, u4087), (5, .pointer (some ⟨b4091, 0, none⟩))]) (fun (u4087 : Value) => fun (b4091 : Nat) => fun w_ => Mem w4074 F4075 w_ [box b4091 28 [.int .i64 0, .int .i64 0, .slice none 0 0, .slice none 0 0], own kStr 9 u4087 t4085, box b4066 28 [.int .i64 0, .int .i64 0, .slice none 0 0, .slice none 0 0]]) ?_ (fun K4105 => ?_)
    · rintro u4087 b4091 w4106 HM
      replace HM : Mem w4074 F4075 w4106 [box b4091 28 [.int .i64 0, .int .i64 0, .slice none 0 0, .slice none 0 0], own kStr 9 u4087 t4085, box b4066 28 [.int .i64 0, .int .i64 0, .slice none 0 0, .slice none 0 0]] := HM
      have hc4084 : CellsAt _ (sb u4072) (so u4072 + ((0 : Int)).toNat * 1) [(.string (gt t4070 (0 : Int)))] := rd_plain hz18 e4083
      have hS := Mem.suf (M := [box b4091 28 [.int .i64 0, .int .i64 0, .slice none 0 0, .slice none 0 0], own kStr 9 u4087 t4085]) HM
      refine drw_any [4] (by kernel_rfl) rfl (.cons ?_ .nil)
      refine br_does (l' := #[true, true, true, true, true, false, true, false]) rfl (guard_none rfl) rfl rfl (by kernel_rfl) (does_callk rfl callok43 rfl (slices_Index_string.calls (x0 := t4085) (x1 := (gt t4070 (0 : Int))) (HM.own_rd 1 rfl) h4090)) ?_
      rintro _ w4107 ⟨rfl, hn⟩
      replace HM : Mem w4074 F4075 w4107 [box b4091 28 [.int .i64 0, .int .i64 0, .slice none 0 0, .slice none 0 0], own kStr 9 u4087 t4085, box b4066 28 [.int .i64 0, .int .i64 0, .slice none 0 0, .slice none 0 0]] := HM.call hn
      have hS := Mem.suf (M := [box b4091 28 [.int .i64 0, .int .i64 0, .slice none 0 0, .slice none 0 0], own kStr 9 u4087 t4085]) HM
      refine ⟨hS, ?_⟩
      refine dt 5 #[true, true, true, true, true, true, true, false] rfl rfl rfl rfl (by kernel_rfl) (ex_build (cells := #[(.int .i64 t4089), (.int .i64 0), (.slice none 0 0), (.slice none 0 0)]) rfl rfl (by kernel_rfl)) hS ?_
      exact drw_sub (K4102 u4087 b4091 _ HM) (Sub.cons rfl (Sub.cons rfl (Sub.cons rfl (Sub.cons rfl (Sub.cons rfl Sub.nil)))))
    refine dt 1 #[false, true, false, false, false, false, false, false] rfl rfl rfl rfl (by kernel_rfl) (ex_move rfl rfl) hS ?_
    have hc4084 : CellsAt _ (sb u4072) (so u4072 + ((0 : Int)).toNat * 1) [(.string (gt t4070 (0 : Int)))] := rd_plain hz18 e4083
    refine dt 2 #[false, true, true, false, false, false, false, false] rfl rfl rfl rfl (by kernel_rfl) (ex_indexAddr (d := kStr) rfl rfl rfl Tryz.underlying72 tsz9 hz18 (idx_lo e4083) (idx_hi e4083)) hS ?_
    refine drw_take (i := 3) (l' := #[false, true, true, true, false, false, false, false]) rfl (guard_none rfl) rfl rfl (by kernel_rfl) (fun w_ hS_ => (ex_load1 rfl rfl Tryz.underlying9 rfl ((hS_.ato hwo hc4084) 0 _ rfl))) hS ?_
    refine drw_any [0, 6] (by kernel_rfl) rfl (.cons ?_ (.cons ?_ .nil))
    · skip
      refine br_does (l' := #[true, true, true, true, false, false, false, false]) rfl (guard_none rfl) rfl rfl (by kernel_rfl) (does_callk rfl callok44 rfl (impl_kindWords.calls h4086)) ?_
      rintro u4087 w4108 ⟨_, rfl, hn⟩
      replace HM : Mem w4074 F4075 w4108 [own kStr 9 u4087 t4085, box b4066 28 [.int .i64 0, .int .i64 0, .slice none 0 0, .slice none 0 0]] := HM.call hn
      have hS := Mem.suf (M := [own kStr 9 u4087 t4085]) HM
      refine ⟨hS, ?_⟩
      refine drw_any [4, 6] (by kernel_rfl) rfl (.cons ?_ (.cons ?_ .nil))
      · skip
        refine br_does (l' := #[true, true, true, true, true, false, false, false]) rfl (guard_none rfl) rfl rfl (by kernel_rfl) (does_callk rfl callok43 rfl (slices_Index_string.calls (x0 := t4085) (x1 := (gt t4070 (0 : Int))) (HM.own_rd 0 rfl) h4090)) ?_
        rintro _ w4109 ⟨rfl, hn⟩
        replace HM : Mem w4074 F4075 w4109 [own kStr 9 u4087 t4085, box b4066 28 [.int .i64 0, .int .i64 0, .slice none 0 0, .slice none 0 0]] := HM.call hn
        have hS := Mem.suf (M := [own kStr 9 u4087 t4085]) HM
        refine ⟨hS, ?_⟩
        refine dt 5 #[true, true, true, true, true, true, false, false] rfl rfl rfl rfl (by kernel_rfl) (ex_build (cells := #[(.int .i64 t4089), (.int .i64 0), (.slice none 0 0), (.slice none 0 0)]) rfl rfl (by kernel_rfl)) hS ?_
        refine drw_any [6] (by kernel_rfl) rfl (.cons ?_ .nil)
        refine br_does (l' := #[true, true, true, true, true, true, true, false]) rfl (guard_none rfl) rfl rfl (by kernel_rfl) (does_alloc (cs := [.int .i64 0, .int .i64 0, .slice none 0 0, .slice none 0 0]) rfl tz28 rfl HM) ?_
        rintro _ w4110 ⟨b4091, rfl, HM⟩
        have hS := Mem.suf (M := [box b4091 28 [.int .i64 0, .int .i64 0, .slice none 0 0, .slice none 0 0], own kStr 9 u4087 t4085]) HM
        refine ⟨hS, ?_⟩
        exact drw_sub (K4102 u4087 b4091 _ HM) (Sub.cons rfl (Sub.cons rfl (Sub.cons rfl (Sub.cons rfl (Sub.cons rfl Sub.nil)))))
      · skip
        refine br_does (l' := #[true, true, true, true, false, false, true, false]) rfl (guard_none rfl) rfl rfl (by kernel_rfl) (does_alloc (cs := [.int .i64 0, .int .i64 0, .slice none 0 0, .slice none 0 0]) rfl tz28 rfl HM) ?_
        rintro _ w4111 ⟨b4091, rfl, HM⟩
        have hS := Mem.suf (M := [box b4091 28 [.int .i64 0, .int .i64 0, .slice none 0 0, .slice none 0 0], own kStr 9 u4087 t4085]) HM
        refine ⟨hS, ?_⟩
        exact drw_sub (K4105 u4087 b4091 _ HM) (Sub.cons rfl (Sub.cons rfl (Sub.cons rfl (Sub.cons rfl (Sub.cons rfl (Sub.cons rfl Sub.nil))))))
    · skip
      refine br_does (l' := #[false, true, true, true, false, false, true, false]) rfl (guard_none rfl) rfl rfl (by kernel_rfl) (does_alloc (cs := [.int .i64 0, .int .i64 0, .slice none 0 0, .slice none 0 0]) rfl tz28 rfl HM) ?_
      rintro _ w4112 ⟨b4091, rfl, HM⟩
      have hS := Mem.suf (M := [box b4091 28 [.int .i64 0, .int .i64 0, .slice none 0 0, .slice none 0 0]]) HM
      refine ⟨hS, ?_⟩
      refine drw_any [0] (by kernel_rfl) rfl (.cons ?_ .nil)
      refine br_does (l' := #[true, true, true, true, false, false, true, false]) rfl (guard_none rfl) rfl rfl (by kernel_rfl) (does_callk rfl callok44 rfl (impl_kindWords.calls h4086)) ?_
      rintro u4087 w4113 ⟨_, rfl, hn⟩
      replace HM : Mem w4074 F4075 w4113 [own kStr 9 u4087 t4085, box b4091 28 [.int .i64 0, .int .i64 0, .slice none 0 0, .slice none 0 0], box b4066 28 [.int .i64 0, .int .i64 0, .slice none 0 0, .slice none 0 0]] := HM.call hn
      have hS := Mem.suf (M := [own kStr 9 u4087 t4085, box b4091 28 [.int .i64 0, .int .i64 0, .slice none 0 0, .slice none 0 0]]) HM
      refine ⟨hS, ?_⟩
      replace HM := HM.front 2 rfl rfl
      replace HM := HM.front 1 rfl rfl
      replace HM := HM.front 2 rfl rfl
      exact drw_sub (K4105 u4087 b4091 _ HM) (Sub.cons rfl (Sub.cons rfl (Sub.cons rfl (Sub.cons rfl (Sub.cons rfl (Sub.cons rfl Sub.nil))))))
  · rintro _ w4114 ⟨b4091, rfl, HM⟩
    refine at_then ?_
    refine run_seq ?_
    refine run_seq ?_
    refine run_meet (fun ρ_ w_ => ρ_ = [(0, .string x0), (2, .pointer (some ⟨b4066, 0, none⟩)), (4, u4072), (5, .pointer (some ⟨b4091, 0, none⟩)), (32, .bool ((decide (300 < (x0.size : Int))) || (decide (t4089 < 0))))] ∧ Mem w4074 F4075 w_ [box b4066 28 [.int .i64 0, .int .i64 0, .slice none 0 0, .slice none 0 0], box b4091 28 [.int .i64 t4089, .int .i64 0, .slice none 0 0, .slice none 0 0]]) ?_ ?_
    · skip
      refine run_region rfl ?_
      refine ox rfl rfl rfl rfl (ex_move rfl rfl) ?_
      refine ox rfl rfl rfl rfl (ex_strlen rfl rfl Tryz.underlying9) ?_
      refine ox rfl rfl rfl rfl (ex_gtr rfl rfl rfl) ?_
      refine ox rfl rfl rfl rfl (ex_move rfl rfl) ?_
      refine bool_cases (decide (300 < (x0.size : Int))) (fun hg4116 => ?_) (fun hg4116 => ?_)
      · skip
        refine ops_off rfl (guard_off rfl rfl rfl hg4116) rfl rfl ?_
        refine ops_off rfl (guard_off rfl rfl rfl hg4116) rfl rfl ?_
        refine ops_off rfl (guard_off rfl rfl rfl hg4116) rfl rfl ?_
        have hg4117 : ((decide (300 < (x0.size : Int))) || (decide (t4089 < 0))) = true := by simp only [hg4116, Bool.and_true, Bool.true_and, Bool.and_false, Bool.false_and, Bool.or_true, Bool.true_or, Bool.or_false, Bool.false_or, Bool.not_true, Bool.not_false, Bool.not_not]
        refine ops_ex (v := .bool ((decide (300 < (x0.size : Int))) || (decide (t4089 < 0)))) rfl (guard_none rfl) rfl rfl (ex_por_t rfl rfl hg4116) ?_
        refine ops_nil ?_
        exact at_meet [(0, .string x0), (2, .pointer (some ⟨b4066, 0, none⟩)), (4, u4072), (5, .pointer (some ⟨b4091, 0, none⟩)), (32, .bool ((decide (300 < (x0.size : Int))) || (decide (t4089 < 0))))] ⟨rfl, HM⟩ (Sub.cons rfl (Sub.cons rfl (Sub.cons rfl (Sub.cons rfl (Sub.cons rfl Sub.nil)))))
      · skip
        refine ops_ex rfl (guard_on rfl rfl rfl hg4116) rfl rfl (ex_fieldAddr (off' := 0) rfl rfl Tryz.underlying28 rfl tsz2 rfl) ?_
        refine ops_ex rfl (guard_on rfl rfl rfl hg4116) rfl rfl (ex_load1 rfl rfl Tryz.underlying2 rfl ((HM.box_at 1 rfl) 0 _ rfl)) ?_
        refine ops_ex rfl (guard_on rfl rfl rfl hg4116) rfl rfl (ex_lss rfl rfl rfl) ?_
        refine ops_ex (v := .bool ((decide (300 < (x0.size : Int))) || (decide (t4089 < 0)))) rfl (guard_none rfl) rfl rfl (ex_por_f rfl rfl hg4116 rfl) ?_
        refine ops_nil ?_
        exact at_meet [(0, .string x0), (2, .pointer (some ⟨b4066, 0, none⟩)), (4, u4072), (5, .pointer (some ⟨b4091, 0, none⟩)), (32, .bool ((decide (300 < (x0.size : Int))) || (decide (t4089 < 0))))] ⟨rfl, HM⟩ (Sub.cons rfl (Sub.cons rfl (Sub.cons rfl (Sub.cons rfl (Sub.cons rfl Sub.nil)))))
    · rintro _ w4118 ⟨rfl, HM⟩
      refine at_then ?_
      refine run_cond (b := ((decide (300 < (x0.size : Int))) || (decide (t4089 < 0)))) rfl (fun hb4119 => ?_) (fun hb4119 => ?_)
      · replace H := cond_t hb4119 H
        refine run_seq ?_
        refine run_region rfl ?_
        refine ox rfl rfl rfl rfl (ex_build (cells := #[(.int .i64 0), (.int .i64 0), (.slice none 0 0), (.slice none 0 0)]) rfl rfl (by kernel_rfl)) ?_
        refine odS rfl rfl rfl (does_store (vs := [.int .i64 0, .int .i64 0, .slice none 0 0, .slice none 0 0]) (cs' := [.int .i64 0, .int .i64 0, .slice none 0 0, .slice none 0 0]) rfl rfl rfl rfl tsz28 (Ones.int (Ones.int (Ones.sl (Ones.sl Ones.nil)))) rfl rfl HM) ?_
        rintro w4120 HM
        refine ox rfl rfl rfl rfl (ex_assign rfl rfl) ?_
        refine ops_nil (at_then ?_)
        refine run_ret ?_
        refine at_then_ret ?_
        replace HM := hcl4080 _ _ HM
        replace HM := HM.empty kRef 62 none
        replace HM := HM.empty kOut 44 none
        replace HM := (HM.front 3 rfl rfl).drop
        replace HM := (HM.front 3 rfl rfl).drop
        replace HM := HM.front 1 rfl rfl
        replace HM := HM.front 2 rfl rfl
        have hcb0 := HM.box_at 0 rfl
        replace HM := (HM.front 0 rfl rfl).drop
        have hR := Option.some.inj H
        subst hR
        exact at_retN1 rfl rfl rfl Tryz.underlying28 rfl tsz28 rfl hcb0 ⟨_, rfl, _, _, rfl, HM⟩
      · replace H := cond_f hb4119 H
        refine run_skip ?_
        refine at_then ?_
        refine run_seq ?_
        obtain ⟨e4123, H⟩ := chk_some H
        refine run_region rfl ?_
        refine ox rfl rfl rfl rfl (ex_move rfl rfl) ?_
        refine ops_exE rfl (guard_none rfl) rfl rfl (ex_cutL kStr rfl rfl rfl Tryz.underlying72 tsz9 hz18 e4123) ?_
        rintro u4124 hr4126
        refine ox rfl rfl rfl rfl (ex_assign rfl rfl) ?_
        refine ops_nil (at_then ?_)
        obtain ⟨o4149, ho4150, H⟩ := bind_some H
        refine run_mid (fun ρ_ w_ => ∃ v4145 : Value, ∃ a4146 : List ByteArray, ∃ a4148 : Int, (a4146, a4148) = o4149 ∧ ρ_ = [(0, .string x0), (2, .pointer (some ⟨b4066, 0, none⟩)), (4, v4145), (5, .pointer (some ⟨b4091, 0, none⟩))] ∧ RdS kStr wz4081 v4145 a4146 ∧ Mem w4074 F4075 w_ [box b4066 28 [.int .i64 0, .int .i64 0, .slice none 0 0, .slice none 0 0], box b4091 28 [.int .i64 t4089, .int .i64 a4148, .slice none 0 0, .slice none 0 0]]) ?_ ?_
        · clear H
          refine run_seq ?_
          refine run_meet (fun ρ_ w_ => ρ_ = [(0, .string x0), (2, .pointer (some ⟨b4066, 0, none⟩)), (4, u4124), (5, .pointer (some ⟨b4091, 0, none⟩)), (43, .bool ((t4089 != 0) && (decide (0 < ((t4070.drop ((1 : Int)).toNat).length : Int)))))] ∧ Mem w4074 F4075 w_ [box b4066 28 [.int .i64 0, .int .i64 0, .slice none 0 0, .slice none 0 0], box b4091 28 [.int .i64 t4089, .int .i64 0, .slice none 0 0, .slice none 0 0]]) ?_ ?_
          · skip
            refine run_region rfl ?_
            refine ox rfl rfl rfl rfl (ex_fieldAddr (off' := 0) rfl rfl Tryz.underlying28 rfl tsz2 rfl) ?_
            refine ox rfl rfl rfl rfl (ex_load1 rfl rfl Tryz.underlying2 rfl ((HM.box_at 1 rfl) 0 _ rfl)) ?_
            refine ox rfl rfl rfl rfl (ex_neq rfl rfl rfl) ?_
            refine ox rfl rfl rfl rfl (ex_move rfl rfl) ?_
            refine bool_cases (t4089 != 0) (fun hg4151 => ?_) (fun hg4151 => ?_)
            · skip
              refine ops_ex rfl (guard_on rfl rfl rfl hg4151) rfl rfl (ex_move rfl rfl) ?_
              refine ops_ex rfl (guard_on rfl rfl rfl hg4151) rfl rfl (ex_len (d := kStr) (xs := t4070.drop ((1 : Int)).toNat) rfl rfl Tryz.underlying72 hr4126) ?_
              refine ops_ex rfl (guard_on rfl rfl rfl hg4151) rfl rfl (ex_gtr rfl rfl rfl) ?_
              refine ops_ex (v := .bool ((t4089 != 0) && (decide (0 < ((t4070.drop ((1 : Int)).toNat).length : Int))))) rfl (guard_none rfl) rfl rfl (ex_pand_t rfl rfl hg4151 rfl) ?_
              refine ops_nil ?_
              exact at_meet [(0, .string x0), (2, .pointer (some ⟨b4066, 0, none⟩)), (4, u4124), (5, .pointer (some ⟨b4091, 0, none⟩)), (43, .bool ((t4089 != 0) && (decide (0 < ((t4070.drop ((1 : Int)).toNat).length : Int)))))] ⟨rfl, HM⟩ (Sub.cons rfl (Sub.cons rfl (Sub.cons rfl (Sub.cons rfl (Sub.cons rfl Sub.nil)))))
            · skip
              refine ops_off rfl (guard_off rfl rfl rfl hg4151) rfl rfl ?_
              refine ops_off rfl (guard_off rfl rfl rfl hg4151) rfl rfl ?_
              refine ops_off rfl (guard_off rfl rfl rfl hg4151) rfl rfl ?_
              have hg4152 : ((t4089 != 0) && (decide (0 < ((t4070.drop ((1 : Int)).toNat).length : Int)))) = false := by simp only [hg4151, Bool.and_true, Bool.true_and, Bool.and_false, Bool.false_and, Bool.or_true, Bool.true_or, Bool.or_false, Bool.false_or, Bool.not_true, Bool.not_false, Bool.not_not]
              refine ops_ex (v := .bool ((t4089 != 0) && (decide (0 < ((t4070.drop ((1 : Int)).toNat).length : Int))))) rfl (guard_none rfl) rfl rfl (ex_pand_f rfl rfl hg4151) ?_
              refine ops_nil ?_
              exact at_meet [(0, .string x0), (2, .pointer (some ⟨b4066, 0, none⟩)), (4, u4124), (5, .pointer (some ⟨b4091, 0, none⟩)), (43, .bool ((t4089 != 0) && (decide (0 < ((t4070.drop ((1 : Int)).toNat).length : Int)))))] ⟨rfl, HM⟩ (Sub.cons rfl (Sub.cons rfl (Sub.cons rfl (Sub.cons rfl (Sub.cons rfl Sub.nil)))))
          · rintro _ w4153 ⟨rfl, HM⟩
            refine at_then ?_
            refine run_cond (b := ((t4089 != 0) && (decide (0 < ((t4070.drop ((1 : Int)).toNat).length : Int))))) rfl (fun hb4154 => ?_) (fun hb4154 => ?_)
            · replace ho4150 := cond_t hb4154 ho4150
              refine run_seq ?_
              obtain ⟨e4155, ho4150⟩ := chk_some ho4150
              obtain ⟨t4157, h4158, ho4150⟩ := bind_some ho4150
              refine run_region rfl ?_
              refine ox rfl rfl rfl rfl (ex_move rfl rfl) ?_
              have hc4156 : CellsAt _ (sb u4124) (so u4124 + ((0 : Int)).toNat * 1) [(.string (gt (t4070.drop ((1 : Int)).toNat) (0 : Int)))] := rd_plain hr4126 e4155
              refine ox rfl rfl rfl rfl (ex_indexAddr (d := kStr) rfl rfl rfl Tryz.underlying72 tsz9 hr4126 (idx_lo e4155) (idx_hi e4155)) ?_
              refine ox rfl rfl rfl rfl (ex_load1 rfl rfl Tryz.underlying9 rfl ((HM.ato hwo hc4156) 0 _ rfl)) ?_
              refine od rfl rfl rfl rfl (does_callk rfl callok45 rfl (impl_number.calls (x0 := (gt (t4070.drop ((1 : Int)).toNat) (0 : Int))) (HM.tabPo hwo htab) h4158)) ?_
              rintro _ w4159 ⟨rfl, hn⟩
              replace HM : Mem w4074 F4075 w4159 [box b4066 28 [.int .i64 0, .int .i64 0, .slice none 0 0, .slice none 0 0], box b4091 28 [.int .i64 t4089, .int .i64 0, .slice none 0 0, .slice none 0 0]] := HM.call hn
              refine ox rfl rfl rfl rfl (ex_fieldAddr (off' := 1) rfl rfl Tryz.underlying28 rfl tsz2 rfl) ?_
              replace HM := HM.front 1 rfl rfl
              refine odS rfl rfl rfl (does_store (vs := [.int .i64 t4157]) (cs' := [.int .i64 t4089, .int .i64 t4157, .slice none 0 0, .slice none 0 0]) rfl rfl rfl rfl tsz2 (Ones.int Ones.nil) rfl rfl HM) ?_
              rintro w4160 HM
              refine ops_nil (at_then ?_)
              obtain ⟨e4161, ho4150⟩ := chk_some ho4150
              refine run_region rfl ?_
              refine ox rfl rfl rfl rfl (ex_move rfl rfl) ?_
              refine ops_exE rfl (guard_none rfl) rfl rfl (ex_cutL kStr rfl rfl rfl Tryz.underlying72 tsz9 hr4126 e4161) ?_
              rintro u4162 hr4164
              refine ox rfl rfl rfl rfl (ex_assign rfl rfl) ?_
              refine ops_nil ?_
              replace HM := HM.front 1 rfl rfl
              exact at_mid (ρ' := [(0, .string x0), (2, .pointer (some ⟨b4066, 0, none⟩)), (4, u4162), (5, .pointer (some ⟨b4091, 0, none⟩))]) ⟨_, _, _, (Option.some.inj ho4150), rfl, hr4164, HM⟩ (Sub.cons rfl (Sub.cons rfl (Sub.cons rfl (Sub.cons rfl Sub.nil))))
            · replace ho4150 := cond_f hb4154 ho4150
              refine run_skip ?_
              exact at_mid (ρ' := [(0, .string x0), (2, .pointer (some ⟨b4066, 0, none⟩)), (4, u4124), (5, .pointer (some ⟨b4091, 0, none⟩))]) ⟨_, _, _, (Option.some.inj ho4150), rfl, hr4126, HM⟩ (Sub.cons rfl (Sub.cons rfl (Sub.cons rfl (Sub.cons rfl Sub.nil))))
        · rintro _ w4165 ⟨v4145, a4146, a4148, rfl, rfl, hr4147, HM⟩
          replace H := cur2_mk H
          refine run_seq ?_
          refine run_seq ?_
          refine run_meet (fun ρ_ w_ => ρ_ = [(0, .string x0), (2, .pointer (some ⟨b4066, 0, none⟩)), (4, v4145), (5, .pointer (some ⟨b4091, 0, none⟩)), (58, .bool ((decide ((a4146.length : Int) < 2)) || (decide (5 < (a4146.length : Int)))))] ∧ Mem w4074 F4075 w_ [box b4066 28 [.int .i64 0, .int .i64 0, .slice none 0 0, .slice none 0 0], box b4091 28 [.int .i64 t4089, .int .i64 a4148, .slice none 0 0, .slice none 0 0]]) ?_ ?_
          · skip
            refine run_region rfl ?_
            refine ox rfl rfl rfl rfl (ex_move rfl rfl) ?_
            refine ox rfl rfl rfl rfl (ex_len (d := kStr) (xs := a4146) rfl rfl Tryz.underlying72 hr4147) ?_
            refine ox rfl rfl rfl rfl (ex_lss rfl rfl rfl) ?_
            refine ox rfl rfl rfl rfl (ex_move rfl rfl) ?_
            refine bool_cases (decide ((a4146.length : Int) < 2)) (fun hg4167 => ?_) (fun hg4167 => ?_)
            · skip
              refine ops_off rfl (guard_off rfl rfl rfl hg4167) rfl rfl ?_
              refine ops_off rfl (guard_off rfl rfl rfl hg4167) rfl rfl ?_
              refine ops_off rfl (guard_off rfl rfl rfl hg4167) rfl rfl ?_
              have hg4168 : ((decide ((a4146.length : Int) < 2)) || (decide (5 < (a4146.length : Int)))) = true := by simp only [hg4167, Bool.and_true, Bool.true_and, Bool.and_false, Bool.false_and, Bool.or_true, Bool.true_or, Bool.or_false, Bool.false_or, Bool.not_true, Bool.not_false, Bool.not_not]
              refine ops_ex (v := .bool ((decide ((a4146.length : Int) < 2)) || (decide (5 < (a4146.length : Int))))) rfl (guard_none rfl) rfl rfl (ex_por_t rfl rfl hg4167) ?_
              refine ops_nil ?_
              exact at_meet [(0, .string x0), (2, .pointer (some ⟨b4066, 0, none⟩)), (4, v4145), (5, .pointer (some ⟨b4091, 0, none⟩)), (58, .bool ((decide ((a4146.length : Int) < 2)) || (decide (5 < (a4146.length : Int)))))] ⟨rfl, HM⟩ (Sub.cons rfl (Sub.cons rfl (Sub.cons rfl (Sub.cons rfl (Sub.cons rfl Sub.nil)))))
            · skip
              refine ops_ex rfl (guard_on rfl rfl rfl hg4167) rfl rfl (ex_move rfl rfl) ?_
              refine ops_ex rfl (guard_on rfl rfl rfl hg4167) rfl rfl (ex_len (d := kStr) (xs := a4146) rfl rfl Tryz.underlying72 hr4147) ?_
              refine ops_ex rfl (guard_on rfl rfl rfl hg4167) rfl rfl (ex_gtr rfl rfl rfl) ?_
              refine ops_ex (v := .bool ((decide ((a4146.length : Int) < 2)) || (decide (5 < (a4146.length : Int))))) rfl (guard_none rfl) rfl rfl (ex_por_f rfl rfl hg4167 rfl) ?_
              refine ops_nil ?_
              exact at_meet [(0, .string x0), (2, .pointer (some ⟨b4066, 0, none⟩)), (4, v4145), (5, .pointer (some ⟨b4091, 0, none⟩)), (58, .bool ((decide ((a4146.length : Int) < 2)) || (decide (5 < (a4146.length : Int)))))] ⟨rfl, HM⟩ (Sub.cons rfl (Sub.cons rfl (Sub.cons rfl (Sub.cons rfl (Sub.cons rfl Sub.nil)))))
          · rintro _ w4169 ⟨rfl, HM⟩
            refine at_then ?_
            refine run_cond (b := ((decide ((a4146.length : Int) < 2)) || (decide (5 < (a4146.length : Int))))) rfl (fun hb4170 => ?_) (fun hb4170 => ?_)
            · replace H := cond_t hb4170 H
              refine run_seq ?_
              refine run_region rfl ?_
              refine ox rfl rfl rfl rfl (ex_build (cells := #[(.int .i64 0), (.int .i64 0), (.slice none 0 0), (.slice none 0 0)]) rfl rfl (by kernel_rfl)) ?_
              refine odS rfl rfl rfl (does_store (vs := [.int .i64 0, .int .i64 0, .slice none 0 0, .slice none 0 0]) (cs' := [.int .i64 0, .int .i64 0, .slice none 0 0, .slice none 0 0]) rfl rfl rfl rfl tsz28 (Ones.int (Ones.int (Ones.sl (Ones.sl Ones.nil)))) rfl rfl HM) ?_
              rintro w4171 HM
              refine ox rfl rfl rfl rfl (ex_assign rfl rfl) ?_
              refine ops_nil (at_then ?_)
              refine run_ret ?_
              refine at_then_ret ?_
              replace HM := hcl4080 _ _ HM
              replace HM := HM.empty kRef 62 none
              replace HM := HM.empty kOut 44 none
              replace HM := (HM.front 3 rfl rfl).drop
              replace HM := (HM.front 3 rfl rfl).drop
              replace HM := HM.front 1 rfl rfl
              replace HM := HM.front 2 rfl rfl
              have hcb0 := HM.box_at 0 rfl
              replace HM := (HM.front 0 rfl rfl).drop
              have hR := Option.some.inj H
              subst hR
              exact at_retN1 rfl rfl rfl Tryz.underlying28 rfl tsz28 rfl hcb0 ⟨_, rfl, _, _, rfl, HM⟩
            · replace H := cond_f hb4170 H
              refine run_skip ?_
              refine at_then ?_
              obtain ⟨o4229, ho4230, H⟩ := bind_some H
              refine run_mid (fun ρ_ w_ => ∃ v4226 : Value, ∃ a4227 : List Ref, a4227 = o4229 ∧ ρ_ = [(0, .string x0), (2, .pointer (some ⟨b4066, 0, none⟩)), (4, v4145), (5, .pointer (some ⟨b4091, 0, none⟩))] ∧ Mem w4074 F4075 w_ [box b4066 28 [.int .i64 0, .int .i64 0, .slice none 0 0, .slice none 0 0], box b4091 28 [.int .i64 t4089, .int .i64 a4148, v4226, .slice none 0 0], own kRef 62 v4226 a4227]) ?_ ?_
              · clear H
                refine run_seq ?_
                obtain ⟨e4231, ho4230⟩ := chk_some ho4230
                obtain ⟨t4233, h4234, ho4230⟩ := bind_some ho4230
                refine run_region rfl ?_
                refine ox rfl rfl rfl rfl (ex_move rfl rfl) ?_
                have hc4232 : CellsAt _ (sb v4145) (so v4145 + ((0 : Int)).toNat * 1) [(.string (gt a4146 (0 : Int)))] := rd_plain hr4147 e4231
                refine ox rfl rfl rfl rfl (ex_indexAddr (d := kStr) rfl rfl rfl Tryz.underlying72 tsz9 hr4147 (idx_lo e4231) (idx_hi e4231)) ?_
                refine ox rfl rfl rfl rfl (ex_load1 rfl rfl Tryz.underlying9 rfl ((HM.ato hwo hc4232) 0 _ rfl)) ?_
                refine od rfl rfl rfl rfl (does_callk rfl callok42 rfl (strings_Split.calls (x0 := (gt a4146 (0 : Int))) (x1 := (⟨#[43]⟩ : ByteArray)) (HM.tabPo hwo htab) h4234)) ?_
                rintro u4235 w4237 ⟨_, rfl, hn⟩
                replace HM : Mem w4074 F4075 w4237 [own kStr 9 u4235 t4233, box b4066 28 [.int .i64 0, .int .i64 0, .slice none 0 0, .slice none 0 0], box b4091 28 [.int .i64 t4089, .int .i64 a4148, .slice none 0 0, .slice none 0 0]] := HM.call hn
                refine ox rfl rfl rfl rfl (ex_len (d := kStr) (xs := t4233) rfl rfl Tryz.underlying72 (HM.own_rd 0 rfl)) ?_
                refine ox rfl rfl rfl rfl (ex_move rfl rfl) ?_
                refine ops_nil (at_then ?_)
                refine run_block ?_
                replace HM := HM.empty kRef 62 none
                replace HM := HM.front 1 rfl rfl
                replace HM := HM.front 1 rfl rfl
                replace HM := HM.front 3 rfl rfl
                replace HM := HM.front 3 rfl rfl
                refine run_loop (fun k_ ρ_ w_ => ∃ v4252 : Value, ∃ a4253 : List Ref, ∃ a4255 : Int, impl_readTx.l0 t4233 k_ a4253 a4255 = some o4229 ∧ ρ_ = [(0, .string x0), (2, .pointer (some ⟨b4066, 0, none⟩)), (4, v4145), (5, .pointer (some ⟨b4091, 0, none⟩)), (63, u4235), (64, .int .i64 (t4233.length : Int)), (65, .int .i64 a4255)] ∧ Mem w4074 F4075 w_ [box b4066 28 [.int .i64 0, .int .i64 0, .slice none 0 0, .slice none 0 0], box b4091 28 [.int .i64 t4089, .int .i64 a4148, v4252, .slice none 0 0], own kRef 62 v4252 a4253, own kStr 9 u4235 t4233]) k (ρ1 := [(0, .string x0), (2, .pointer (some ⟨b4066, 0, none⟩)), (4, v4145), (5, .pointer (some ⟨b4091, 0, none⟩)), (63, u4235), (64, .int .i64 (t4233.length : Int)), (65, .int .i64 0)]) ⟨_, _, _, ho4230, rfl, HM⟩ (Sub.cons rfl (Sub.cons rfl (Sub.cons rfl (Sub.cons rfl (Sub.cons rfl (Sub.cons rfl (Sub.cons rfl Sub.nil))))))) ?_
                clear HM ho4230
                rintro k4271 _ w4272 ⟨v4252, a4253, a4255, ho4230, rfl, HM⟩
                obtain _ | k4271 := k4271
                · exact nomatch ((impl_readTx.l0_z t4233 a4253 a4255).symm.trans ho4230)
                replace ho4230 := (impl_readTx.l0_s t4233 k4271 a4253 a4255).symm.trans ho4230
                refine run_seq ?_
                refine run_region rfl ?_
                refine ox rfl rfl rfl rfl (ex_lss rfl rfl rfl) ?_
                refine ops_nil (at_then (run_seq ?_))
                refine run_cond (b := (decide (a4255 < (t4233.length : Int)))) rfl (fun hb4273 => ?_) (fun hb4273 => ?_)
                · replace ho4230 := cond_t hb4273 ho4230
                  refine run_skip ?_
                  refine at_then ?_
                  refine run_seq ?_
                  refine run_block ?_
                  refine run_seq ?_
                  obtain ⟨e4274, ho4230⟩ := chk_some ho4230
                  refine run_region rfl ?_
                  refine ox rfl rfl rfl rfl (ex_indexAddr (d := kStr) rfl rfl rfl Tryz.underlying72 tsz9 (HM.own_rd 3 rfl) (idx_lo e4274) (idx_hi e4274)) ?_
                  refine ox rfl rfl rfl rfl (ex_load1 rfl rfl Tryz.underlying9 rfl ((rd_plain (HM.own_rd 3 rfl) e4274) 0 _ rfl)) ?_
                  refine ox rfl rfl rfl rfl (ex_assign rfl rfl) ?_
                  refine ops_nil (at_then (run_seq ?_))
                  obtain ⟨t4275, h4276, ho4230⟩ := bind_some ho4230
                  refine run_region rfl ?_
                  refine ox rfl rfl rfl rfl (ex_move rfl rfl) ?_
                  refine od rfl rfl rfl rfl (does_callk rfl callok46 rfl (strings_Cut.calls (x0 := (gt t4233 a4255)) (x1 := (⟨#[58]⟩ : ByteArray)) (HM.tabPo hwo htab) h4276)) ?_
                  rintro _ w4277 ⟨rfl, hn⟩
                  replace HM : Mem w4074 F4075 w4277 [box b4066 28 [.int .i64 0, .int .i64 0, .slice none 0 0, .slice none 0 0], box b4091 28 [.int .i64 t4089, .int .i64 a4148, v4252, .slice none 0 0], own kRef 62 v4252 a4253, own kStr 9 u4235 t4233] := HM.call hn
                  refine ox rfl rfl rfl rfl (ex_move rfl rfl) ?_
                  refine ox rfl rfl rfl rfl (ex_extract rfl rfl rfl) ?_
                  refine ox rfl rfl rfl rfl (ex_extract rfl rfl rfl) ?_
                  refine ox rfl rfl rfl rfl (ex_extract rfl rfl rfl) ?_
                  refine ox rfl rfl rfl rfl (ex_assign rfl rfl) ?_
                  refine ox rfl rfl rfl rfl (ex_assign rfl rfl) ?_
                  refine ox rfl rfl rfl rfl (ex_assign rfl rfl) ?_
                  refine ops_nil (at_then ?_)
                  obtain ⟨t4278, h4279, ho4230⟩ := bind_some ho4230
                  obtain ⟨t4280, h4281, ho4230⟩ := bind_some ho4230
                  obtain ⟨e4285, ho4230⟩ := chk_some ho4230
                  refine run_meet (fun ρ_ w_ => ∃ v4286 : Value, ρ_ = [(0, .string x0), (2, .pointer (some ⟨b4066, 0, none⟩)), (4, v4145), (5, .pointer (some ⟨b4091, 0, none⟩)), (63, u4235), (64, .int .i64 (t4233.length : Int)), (65, .int .i64 a4255)] ∧ Mem w4074 F4075 w_ [box b4066 28 [.int .i64 0, .int .i64 0, .slice none 0 0, .slice none 0 0], box b4091 28 [.int .i64 t4089, .int .i64 a4148, v4286, .slice none 0 0], own kRef 62 v4286 (a4253 ++ ([(⟨t4278, t4280⟩ : Ref)] : List Ref)), own kStr 9 u4235 t4233]) ?_ ?_
                  · skip
                    replace HM := HM.front 2 rfl rfl
                    replace HM := HM.front 2 rfl rfl
                    refine run_draw (fun w_ => Mem w4074 F4075 w_ [box b4066 28 [.int .i64 0, .int .i64 0, .slice none 0 0, .slice none 0 0], own kStr 9 u4235 t4233]) mixed rfl (l := #[false, false, false, false, false, false, false, false, false, false, false]) rfl ?_
                    replace HM := HM.grow (fr_drew _)
                    have hS := Mem.suf (M := [box b4091 28 [.int .i64 t4089, .int .i64 a4148, v4252, .slice none 0 0], own kRef 62 v4252 a4253]) HM
                    refine drw_cut1 (l' := #[true, true, true, true, true, true, true, true, false, false, false]) (f' := 3) (fun (v4282 : Value) => [(0, .string x0), (2, .pointer (some ⟨b4066, 0, none⟩)), (4, v4145), (5, .pointer (some ⟨b4091, 0, none⟩)), (63, u4235), (64, .int .i64 (t4233.length : Int)), (65, .int .i64 a4255), (76, v4252), (82, v4282)]) (fun (v4282 : Value) => fun w_ => Mem w4074 F4075 w_ [own kRef 62 v4282 ([(⟨t4278, t4280⟩ : Ref)] : List Ref), box b4091 28 [.int .i64 t4089, .int .i64 a4148, v4252, .slice none 0 0], own kRef 62 v4252 a4253, box b4066 28 [.int .i64 0, .int .i64 0, .slice none 0 0, .slice none 0 0], own kStr 9 u4235 t4233]) ?_ (fun K4296 => ?_)
                    · rintro v4282 w4297 HM
                      replace HM : Mem w4074 F4075 w4297 [own kRef 62 v4282 ([(⟨t4278, t4280⟩ : Ref)] : List Ref), box b4091 28 [.int .i64 t4089, .int .i64 a4148, v4252, .slice none 0 0], own kRef 62 v4252 a4253, box b4066 28 [.int .i64 0, .int .i64 0, .slice none 0 0, .slice none 0 0], own kStr 9 u4235 t4233] := HM
                      have hS := Mem.suf (M := [own kRef 62 v4282 ([(⟨t4278, t4280⟩ : Ref)] : List Ref), box b4091 28 [.int .i64 t4089, .int .i64 a4148, v4252, .slice none 0 0], own kRef 62 v4252 a4253]) HM
                      replace HM := HM.front 2 rfl rfl
                      refine drw_any [8] (by kernel_rfl) rfl (.cons ?_ .nil)
                      refine br_does (l' := #[true, true, true, true, true, true, true, true, true, false, false]) rfl (guard_none rfl) rfl rfl (by kernel_rfl) (does_appendR kRef flat_plain rfl rfl rfl Tryz.underlying25 tsz62 rfl tby62 tz62 rfl rfl (leB_le e4285) (HM.own_rd 1 rfl) HM) ?_
                      rintro v4286 w4298 HM
                      have hS := Mem.suf (M := [own kRef 62 v4286 (a4253 ++ ([(⟨t4278, t4280⟩ : Ref)] : List Ref)), own kRef 62 v4282 ([(⟨t4278, t4280⟩ : Ref)] : List Ref), box b4091 28 [.int .i64 t4089, .int .i64 a4148, v4252, .slice none 0 0]]) HM
                      refine ⟨hS, ?_⟩
                      refine dt 9 #[true, true, true, true, true, true, true, true, true, true, false] rfl rfl rfl rfl (by kernel_rfl) (ex_fieldAddr (off' := 2) rfl rfl Tryz.underlying28 rfl tsz25 rfl) hS ?_
                      replace HM := HM.front 2 rfl rfl
                      refine drw_any [10] (by kernel_rfl) rfl (.cons ?_ .nil)
                      refine br_doesS (l' := #[true, true, true, true, true, true, true, true, true, true, true]) rfl (guard_none rfl) rfl (by kernel_rfl) (does_store (vs := [v4286]) (cs' := [.int .i64 t4089, .int .i64 a4148, v4286, .slice none 0 0]) rfl rfl rfl (rd_cells (HM.own_rd 1 rfl)) tsz25 (Ones.rd (HM.own_rd 1 rfl) Ones.nil) rfl rfl HM) ?_
                      rintro w4299 HM
                      have hS := Mem.suf (M := [box b4091 28 [.int .i64 t4089, .int .i64 a4148, v4286, .slice none 0 0], own kRef 62 v4286 (a4253 ++ ([(⟨t4278, t4280⟩ : Ref)] : List Ref)), own kRef 62 v4282 ([(⟨t4278, t4280⟩ : Ref)] : List Ref)]) HM
                      refine ⟨hS, ?_⟩
                      refine drw_done (by kernel_rfl) ?_
                      replace HM := (HM.front 2 rfl rfl).drop
                      replace HM := HM.front 3 rfl rfl
                      replace HM := HM.front 2 rfl rfl
                      replace HM := HM.front 2 rfl rfl
                      replace HM := HM.front 3 rfl rfl
                      exact at_meet [(0, .string x0), (2, .pointer (some ⟨b4066, 0, none⟩)), (4, v4145), (5, .pointer (some ⟨b4091, 0, none⟩)), (63, u4235), (64, .int .i64 (t4233.length : Int)), (65, .int .i64 a4255)] ⟨_, rfl, HM⟩ (Sub.cons rfl (Sub.cons rfl (Sub.cons rfl (Sub.cons rfl (Sub.cons rfl (Sub.cons rfl (Sub.cons rfl Sub.nil)))))))
                    refine drw_cut0 (l' := #[true, true, true, true, true, true, true, false, false, false, false]) (f' := 4) ([(0, .string x0), (2, .pointer (some ⟨b4066, 0, none⟩)), (4, v4145), (5, .pointer (some ⟨b4091, 0, none⟩)), (63, u4235), (64, .int .i64 (t4233.length : Int)), (65, .int .i64 a4255), (76, v4252), (81, .agg #[(.int .i64 t4278), (.int .i64 t4280)])]) (fun w_ => Mem w4074 F4075 w_ [box b4091 28 [.int .i64 t4089, .int .i64 a4148, v4252, .slice none 0 0], own kRef 62 v4252 a4253, box b4066 28 [.int .i64 0, .int .i64 0, .slice none 0 0, .slice none 0 0], own kStr 9 u4235 t4233]) ?_ (fun K4300 => ?_)
                    · rintro w4301 HM
                      replace HM : Mem w4074 F4075 w4301 [box b4091 28 [.int .i64 t4089, .int .i64 a4148, v4252, .slice none 0 0], own kRef 62 v4252 a4253, box b4066 28 [.int .i64 0, .int .i64 0, .slice none 0 0, .slice none 0 0], own kStr 9 u4235 t4233] := HM
                      have hS := Mem.suf (M := [box b4091 28 [.int .i64 t4089, .int .i64 a4148, v4252, .slice none 0 0], own kRef 62 v4252 a4253]) HM
                      refine drw_any [7] (by kernel_rfl) rfl (.cons ?_ .nil)
                      refine br_does (l' := #[true, true, true, true, true, true, true, true, false, false, false]) rfl (guard_none rfl) rfl rfl (by kernel_rfl) (does_lit (e := 62) (cs := [.int .i64 t4278, .int .i64 t4280]) (xs := ([(⟨t4278, t4280⟩ : Ref)] : List Ref)) kRef rfl rfl (fun _ => by kernel_rfl) rfl rfl (fun _ _ h => by have h' : _ = [] := h; subst h'; exact (Elems.cons (d := kRef) (x := (⟨t4278, t4280⟩ : Ref)) (f := []) ⟨rfl, rfl⟩ .nil)) HM.emp) ?_
                      rintro v4282 w4302 HM
                      have hS := Mem.suf (M := [own kRef 62 v4282 ([(⟨t4278, t4280⟩ : Ref)] : List Ref), box b4091 28 [.int .i64 t4089, .int .i64 a4148, v4252, .slice none 0 0], own kRef 62 v4252 a4253]) HM
                      refine ⟨hS, ?_⟩
                      exact drw_sub (K4296 v4282 _ HM) (Sub.cons rfl (Sub.cons rfl (Sub.cons rfl (Sub.cons rfl (Sub.cons rfl (Sub.cons rfl (Sub.cons rfl (Sub.cons rfl (Sub.cons rfl Sub.nil)))))))))
                    refine drw_cut0 (l' := #[true, true, true, true, true, false, false, false, false, false, false]) (f' := 6) ([(0, .string x0), (2, .pointer (some ⟨b4066, 0, none⟩)), (4, v4145), (5, .pointer (some ⟨b4091, 0, none⟩)), (63, u4235), (64, .int .i64 (t4233.length : Int)), (65, .int .i64 a4255), (79, .string t4275.2.1), (76, v4252), (78, .int .i64 t4278)]) (fun w_ => Mem w4074 F4075 w_ [box b4091 28 [.int .i64 t4089, .int .i64 a4148, v4252, .slice none 0 0], own kRef 62 v4252 a4253, box b4066 28 [.int .i64 0, .int .i64 0, .slice none 0 0, .slice none 0 0], own kStr 9 u4235 t4233]) ?_ (fun K4303 => ?_)
                    · rintro w4304 HM
                      replace HM : Mem w4074 F4075 w4304 [box b4091 28 [.int .i64 t4089, .int .i64 a4148, v4252, .slice none 0 0], own kRef 62 v4252 a4253, box b4066 28 [.int .i64 0, .int .i64 0, .slice none 0 0, .slice none 0 0], own kStr 9 u4235 t4233] := HM
                      have hS := Mem.suf (M := [box b4091 28 [.int .i64 t4089, .int .i64 a4148, v4252, .slice none 0 0], own kRef 62 v4252 a4253]) HM
                      refine drw_any [5] (by kernel_rfl) rfl (.cons ?_ .nil)
                      refine br_does (l' := #[true, true, true, true, true, true, false, false, false, false, false]) rfl (guard_none rfl) rfl rfl (by kernel_rfl) (does_callk rfl callok45 rfl (impl_number.calls (x0 := t4275.2.1) (HM.tabPo hwo htab) h4281)) ?_
                      rintro _ w4305 ⟨rfl, hn⟩
                      replace HM : Mem w4074 F4075 w4305 [box b4091 28 [.int .i64 t4089, .int .i64 a4148, v4252, .slice none 0 0], own kRef 62 v4252 a4253, box b4066 28 [.int .i64 0, .int .i64 0, .slice none 0 0, .slice none 0 0], own kStr 9 u4235 t4233] := HM.call hn
                      have hS := Mem.suf (M := [box b4091 28 [.int .i64 t4089, .int .i64 a4148, v4252, .slice none 0 0], own kRef 62 v4252 a4253]) HM
                      refine ⟨hS, ?_⟩
                      refine dt 6 #[true, true, true, true, true, true, true, false, false, false, false] rfl rfl rfl rfl (by kernel_rfl) (ex_build (cells := #[(.int .i64 t4278), (.int .i64 t4280)]) rfl rfl (by kernel_rfl)) hS ?_
                      exact drw_sub (K4300 _ HM) (Sub.cons rfl (Sub.cons rfl (Sub.cons rfl (Sub.cons rfl (Sub.cons rfl (Sub.cons rfl (Sub.cons rfl (Sub.cons rfl (Sub.cons rfl Sub.nil)))))))))
                    refine dt 0 #[true, false, false, false, false, false, false, false, false, false, false] rfl rfl rfl rfl (by kernel_rfl) (ex_fieldAddr (off' := 2) rfl rfl Tryz.underlying28 rfl tsz25 rfl) hS ?_
                    refine dt 2 #[true, false, true, false, false, false, false, false, false, false, false] rfl rfl rfl rfl (by kernel_rfl) (ex_move rfl rfl) hS ?_
                    refine dt 4 #[true, false, true, false, true, false, false, false, false, false, false] rfl rfl rfl rfl (by kernel_rfl) (ex_move rfl rfl) hS ?_
                    refine drw_any [1, 3] (by kernel_rfl) rfl (.cons ?_ (.cons ?_ .nil))
                    · skip
                      refine br_does (l' := #[true, true, true, false, true, false, false, false, false, false, false]) rfl (guard_none rfl) rfl rfl (by kernel_rfl) (does_ex' (ex_load1 rfl rfl Tryz.underlying25 rfl ((HM.box_at 0 rfl) 2 _ rfl))) ?_
                      rintro _ _ ⟨rfl, rfl⟩
                      refine ⟨hS, ?_⟩
                      refine drw_any [3] (by kernel_rfl) rfl (.cons ?_ .nil)
                      refine br_does (l' := #[true, true, true, true, true, false, false, false, false, false, false]) rfl (guard_none rfl) rfl rfl (by kernel_rfl) (does_callk rfl callok45 rfl (impl_number.calls (x0 := t4275.1) (HM.tabPo hwo htab) h4279)) ?_
                      rintro _ w4306 ⟨rfl, hn⟩
                      replace HM : Mem w4074 F4075 w4306 [box b4091 28 [.int .i64 t4089, .int .i64 a4148, v4252, .slice none 0 0], own kRef 62 v4252 a4253, box b4066 28 [.int .i64 0, .int .i64 0, .slice none 0 0, .slice none 0 0], own kStr 9 u4235 t4233] := HM.call hn
                      have hS := Mem.suf (M := [box b4091 28 [.int .i64 t4089, .int .i64 a4148, v4252, .slice none 0 0], own kRef 62 v4252 a4253]) HM
                      refine ⟨hS, ?_⟩
                      exact drw_sub (K4303 _ HM) (Sub.cons rfl (Sub.cons rfl (Sub.cons rfl (Sub.cons rfl (Sub.cons rfl (Sub.cons rfl (Sub.cons rfl (Sub.cons rfl (Sub.cons rfl (Sub.cons rfl Sub.nil))))))))))
                    · skip
                      refine br_does (l' := #[true, false, true, true, true, false, false, false, false, false, false]) rfl (guard_none rfl) rfl rfl (by kernel_rfl) (does_callk rfl callok45 rfl (impl_number.calls (x0 := t4275.1) (HM.tabPo hwo htab) h4279)) ?_
                      rintro _ w4307 ⟨rfl, hn⟩
                      replace HM : Mem w4074 F4075 w4307 [box b4091 28 [.int .i64 t4089, .int .i64 a4148, v4252, .slice none 0 0], own kRef 62 v4252 a4253, box b4066 28 [.int .i64 0, .int .i64 0, .slice none 0 0, .slice none 0 0], own kStr 9 u4235 t4233] := HM.call hn
                      have hS := Mem.suf (M := [box b4091 28 [.int .i64 t4089, .int .i64 a4148, v4252, .slice none 0 0], own kRef 62 v4252 a4253]) HM
                      refine ⟨hS, ?_⟩
                      refine drw_any [1, 5] (by kernel_rfl) rfl (.cons ?_ (.cons ?_ .nil))
                      · skip
                        refine br_does (l' := #[true, true, true, true, true, false, false, false, false, false, false]) rfl (guard_none rfl) rfl rfl (by kernel_rfl) (does_ex' (ex_load1 rfl rfl Tryz.underlying25 rfl ((HM.box_at 0 rfl) 2 _ rfl))) ?_
                        rintro _ _ ⟨rfl, rfl⟩
                        refine ⟨hS, ?_⟩
                        exact drw_sub (K4303 _ HM) (Sub.cons rfl (Sub.cons rfl (Sub.cons rfl (Sub.cons rfl (Sub.cons rfl (Sub.cons rfl (Sub.cons rfl (Sub.cons rfl (Sub.cons rfl (Sub.cons rfl Sub.nil))))))))))
                      · skip
                        refine br_does (l' := #[true, false, true, true, true, true, false, false, false, false, false]) rfl (guard_none rfl) rfl rfl (by kernel_rfl) (does_callk rfl callok45 rfl (impl_number.calls (x0 := t4275.2.1) (HM.tabPo hwo htab) h4281)) ?_
                        rintro _ w4308 ⟨rfl, hn⟩
                        replace HM : Mem w4074 F4075 w4308 [box b4091 28 [.int .i64 t4089, .int .i64 a4148, v4252, .slice none 0 0], own kRef 62 v4252 a4253, box b4066 28 [.int .i64 0, .int .i64 0, .slice none 0 0, .slice none 0 0], own kStr 9 u4235 t4233] := HM.call hn
                        have hS := Mem.suf (M := [box b4091 28 [.int .i64 t4089, .int .i64 a4148, v4252, .slice none 0 0], own kRef 62 v4252 a4253]) HM
                        refine ⟨hS, ?_⟩
                        refine dt 6 #[true, false, true, true, true, true, true, false, false, false, false] rfl rfl rfl rfl (by kernel_rfl) (ex_build (cells := #[(.int .i64 t4278), (.int .i64 t4280)]) rfl rfl (by kernel_rfl)) hS ?_
                        refine drw_any [1, 7] (by kernel_rfl) rfl (.cons ?_ (.cons ?_ .nil))
                        · skip
                          refine br_does (l' := #[true, true, true, true, true, true, true, false, false, false, false]) rfl (guard_none rfl) rfl rfl (by kernel_rfl) (does_ex' (ex_load1 rfl rfl Tryz.underlying25 rfl ((HM.box_at 0 rfl) 2 _ rfl))) ?_
                          rintro _ _ ⟨rfl, rfl⟩
                          refine ⟨hS, ?_⟩
                          exact drw_sub (K4300 _ HM) (Sub.cons rfl (Sub.cons rfl (Sub.cons rfl (Sub.cons rfl (Sub.cons rfl (Sub.cons rfl (Sub.cons rfl (Sub.cons rfl (Sub.cons rfl Sub.nil)))))))))
                        · skip
                          refine br_does (l' := #[true, false, true, true, true, true, true, true, false, false, false]) rfl (guard_none rfl) rfl rfl (by kernel_rfl) (does_lit (e := 62) (cs := [.int .i64 t4278, .int .i64 t4280]) (xs := ([(⟨t4278, t4280⟩ : Ref)] : List Ref)) kRef rfl rfl (fun _ => by kernel_rfl) rfl rfl (fun _ _ h => by have h' : _ = [] := h; subst h'; exact (Elems.cons (d := kRef) (x := (⟨t4278, t4280⟩ : Ref)) (f := []) ⟨rfl, rfl⟩ .nil)) HM.emp) ?_
                          rintro v4282 w4309 HM
                          have hS := Mem.suf (M := [own kRef 62 v4282 ([(⟨t4278, t4280⟩ : Ref)] : List Ref), box b4091 28 [.int .i64 t4089, .int .i64 a4148, v4252, .slice none 0 0], own kRef 62 v4252 a4253]) HM
                          refine ⟨hS, ?_⟩
                          refine drw_any [1] (by kernel_rfl) rfl (.cons ?_ .nil)
                          refine br_does (l' := #[true, true, true, true, true, true, true, true, false, false, false]) rfl (guard_none rfl) rfl rfl (by kernel_rfl) (does_ex' (ex_load1 rfl rfl Tryz.underlying25 rfl ((HM.box_at 1 rfl) 2 _ rfl))) ?_
                          rintro _ _ ⟨rfl, rfl⟩
                          refine ⟨hS, ?_⟩
                          exact drw_sub (K4296 v4282 _ HM) (Sub.cons rfl (Sub.cons rfl (Sub.cons rfl (Sub.cons rfl (Sub.cons rfl (Sub.cons rfl (Sub.cons rfl (Sub.cons rfl (Sub.cons rfl Sub.nil)))))))))
                  · rintro _ w4310 ⟨v4286, rfl, HM⟩
                    refine at_block ?_
                    refine at_then ?_
                    refine run_region rfl ?_
                    refine ox rfl rfl rfl rfl (ex_add rfl rfl rfl) ?_
                    refine ox rfl rfl rfl rfl (ex_move rfl rfl) ?_
                    refine ops_nil ?_
                    exact at_again k4271 (ρ1 := [(0, .string x0), (2, .pointer (some ⟨b4066, 0, none⟩)), (4, v4145), (5, .pointer (some ⟨b4091, 0, none⟩)), (63, u4235), (64, .int .i64 (t4233.length : Int)), (65, .int .i64 (wrap64 (a4255 + 1)))]) (Nat.lt_succ_self _) ⟨_, _, _, ho4230, rfl, HM⟩ (Sub.cons rfl (Sub.cons rfl (Sub.cons rfl (Sub.cons rfl (Sub.cons rfl (Sub.cons rfl (Sub.cons rfl Sub.nil)))))))
                · replace ho4230 := cond_f hb4273 ho4230
                  refine run_exit ?_
                  refine at_then_exit ?_
                  refine at_then_exit ?_
                  refine at_block_exit ?_
                  replace HM := (HM.front 3 rfl rfl).drop
                  exact at_mid (ρ' := [(0, .string x0), (2, .pointer (some ⟨b4066, 0, none⟩)), (4, v4145), (5, .pointer (some ⟨b4091, 0, none⟩))]) ⟨_, _, (Option.some.inj ho4230), rfl, HM⟩ (Sub.cons rfl (Sub.cons rfl (Sub.cons rfl (Sub.cons rfl Sub.nil))))
              · rintro _ w4311 ⟨v4226, a4227, rfl, rfl, HM⟩
                obtain ⟨o4377, ho4378, H⟩ := bind_some H
                refine run_mid (fun ρ_ w_ => ∃ v4374 : Value, ∃ a4375 : List Out, Sum.inr a4375 = o4377 ∧ ρ_ = [(0, .string x0), (2, .pointer (some ⟨b4066, 0, none⟩)), (5, .pointer (some ⟨b4091, 0, none⟩))] ∧ Mem w4074 F4075 w_ [box b4066 28 [.int .i64 0, .int .i64 0, .slice none 0 0, .slice none 0 0], box b4091 28 [.int .i64 t4089, .int .i64 a4148, v4226, v4374], own kRef 62 v4226 a4227, own kOut 44 v4374 a4375]) ?_ ?_
                · skip
                  refine run_seq ?_
                  obtain ⟨e4379, ho4378⟩ := chk_some ho4378
                  refine run_region rfl ?_
                  refine ox rfl rfl rfl rfl (ex_move rfl rfl) ?_
                  refine ops_exE rfl (guard_none rfl) rfl rfl (ex_cutL kStr rfl rfl rfl Tryz.underlying72 tsz9 hr4147 e4379) ?_
                  rintro u4380 hr4382
                  refine ox rfl rfl rfl rfl (ex_len (d := kStr) (xs := a4146.drop ((1 : Int)).toNat) rfl rfl Tryz.underlying72 hr4382) ?_
                  refine ox rfl rfl rfl rfl (ex_move rfl rfl) ?_
                  refine ops_nil (at_then ?_)
                  refine run_block ?_
                  replace HM := HM.empty kOut 44 none
                  replace HM := HM.front 3 rfl rfl
                  replace HM := HM.front 3 rfl rfl
                  replace HM := HM.front 3 rfl rfl
                  refine run_loop (fun k_ ρ_ w_ => ∃ v4401 : Value, ∃ a4402 : List Out, ∃ a4404 : Int, impl_readTx.l1 a4146 k_ a4402 a4404 = some o4377 ∧ ρ_ = [(0, .string x0), (2, .pointer (some ⟨b4066, 0, none⟩)), (5, .pointer (some ⟨b4091, 0, none⟩)), (87, u4380), (88, .int .i64 ((a4146.drop ((1 : Int)).toNat).length : Int)), (89, .int .i64 a4404)] ∧ Mem w4074 F4075 w_ [box b4066 28 [.int .i64 0, .int .i64 0, .slice none 0 0, .slice none 0 0], box b4091 28 [.int .i64 t4089, .int .i64 a4148, v4226, v4401], own kRef 62 v4226 a4227, own kOut 44 v4401 a4402]) k (ρ1 := [(0, .string x0), (2, .pointer (some ⟨b4066, 0, none⟩)), (5, .pointer (some ⟨b4091, 0, none⟩)), (87, u4380), (88, .int .i64 ((a4146.drop ((1 : Int)).toNat).length : Int)), (89, .int .i64 0)]) ⟨_, _, _, ho4378, rfl, HM⟩ (Sub.cons rfl (Sub.cons rfl (Sub.cons rfl (Sub.cons rfl (Sub.cons rfl (Sub.cons rfl Sub.nil)))))) ?_
                  clear HM ho4378
                  rintro k4424 _ w4425 ⟨v4401, a4402, a4404, ho4378, rfl, HM⟩
                  obtain _ | k4424 := k4424
                  · exact nomatch ((impl_readTx.l1_z a4146 a4402 a4404).symm.trans ho4378)
                  replace ho4378 := (impl_readTx.l1_s a4146 k4424 a4402 a4404).symm.trans ho4378
                  refine run_seq ?_
                  refine run_region rfl ?_
                  refine ox rfl rfl rfl rfl (ex_lss rfl rfl rfl) ?_
                  refine ops_nil (at_then (run_seq ?_))
                  refine run_cond (b := (decide (a4404 < ((a4146.drop ((1 : Int)).toNat).length : Int)))) rfl (fun hb4426 => ?_) (fun hb4426 => ?_)
                  · replace ho4378 := cond_t hb4426 ho4378
                    refine run_skip ?_
                    refine at_then ?_
                    refine run_seq ?_
                    refine run_block ?_
                    refine run_seq ?_
                    obtain ⟨e4427, ho4378⟩ := chk_some ho4378
                    refine run_region rfl ?_
                    have hc4428 : CellsAt _ (sb u4380) (so u4380 + (a4404).toNat * 1) [(.string (gt (a4146.drop ((1 : Int)).toNat) a4404))] := rd_plain hr4382 e4427
                    refine ox rfl rfl rfl rfl (ex_indexAddr (d := kStr) rfl rfl rfl Tryz.underlying72 tsz9 hr4382 (idx_lo e4427) (idx_hi e4427)) ?_
                    refine ox rfl rfl rfl rfl (ex_load1 rfl rfl Tryz.underlying9 rfl ((HM.ato hwo hc4428) 0 _ rfl)) ?_
                    refine ox rfl rfl rfl rfl (ex_assign rfl rfl) ?_
                    refine ops_nil (at_then (run_seq ?_))
                    obtain ⟨t4429, h4430, ho4378⟩ := bind_some ho4378
                    refine run_region rfl ?_
                    refine ox rfl rfl rfl rfl (ex_move rfl rfl) ?_
                    refine od rfl rfl rfl rfl (does_callk rfl callok47 rfl (impl_readOut.calls (x0 := (gt (a4146.drop ((1 : Int)).toNat) a4404)) (HM.tabPo hwo htab) h4430)) ?_
                    rintro _ w4436 ⟨u4431, rfl, hn⟩
                    replace HM : Mem w4074 F4075 w4436 [own kInt 2 u4431 t4429.1.fRule.fKeys, box b4066 28 [.int .i64 0, .int .i64 0, .slice none 0 0, .slice none 0 0], box b4091 28 [.int .i64 t4089, .int .i64 a4148, v4226, v4401], own kRef 62 v4226 a4227, own kOut 44 v4401 a4402] := HM.call hn
                    refine ox rfl rfl rfl rfl (ex_move rfl rfl) ?_
                    refine ox rfl rfl rfl rfl (ex_extract rfl rfl rfl) ?_
                    refine ox rfl rfl rfl rfl (ex_extract rfl rfl rfl) ?_
                    refine od rfl rfl rfl rfl (does_alloc (cs := [.int .i64 0, .slice none 0 0, .int .i64 0, .int .i64 0]) rfl tz44 rfl HM) ?_
                    rintro _ w4437 ⟨b4433, rfl, HM⟩
                    refine odS rfl rfl rfl (does_store (vs := [.int .i64 t4429.1.fValue, u4431, .int .i64 t4429.1.fRule.fNeed, .int .i64 t4429.1.fRule.fAfter]) (cs' := [.int .i64 t4429.1.fValue, u4431, .int .i64 t4429.1.fRule.fNeed, .int .i64 t4429.1.fRule.fAfter]) rfl rfl rfl rfl tsz44 (Ones.int (Ones.rd (HM.own_rd 1 rfl) (Ones.int (Ones.int Ones.nil)))) rfl rfl HM) ?_
                    rintro w4438 HM
                    refine ox rfl rfl rfl rfl (ex_assign rfl rfl) ?_
                    refine ops_nil (at_then (run_seq ?_))
                    refine run_seq ?_
                    refine run_region rfl ?_
                    refine ox rfl rfl rfl rfl (ex_move rfl rfl) ?_
                    refine ox rfl rfl rfl rfl (ex_not rfl rfl) ?_
                    refine ops_nil (at_then ?_)
                    refine run_cond (b := !t4429.2) rfl (fun hb4440 => ?_) (fun hb4440 => ?_)
                    · replace ho4378 := cond_t hb4440 ho4378
                      refine run_seq ?_
                      refine run_region rfl ?_
                      refine ox rfl rfl rfl rfl (ex_build (cells := #[(.int .i64 0), (.int .i64 0), (.slice none 0 0), (.slice none 0 0)]) rfl rfl (by kernel_rfl)) ?_
                      replace HM := HM.front 2 rfl rfl
                      refine odS rfl rfl rfl (does_store (vs := [.int .i64 0, .int .i64 0, .slice none 0 0, .slice none 0 0]) (cs' := [.int .i64 0, .int .i64 0, .slice none 0 0, .slice none 0 0]) rfl rfl rfl rfl tsz28 (Ones.int (Ones.int (Ones.sl (Ones.sl Ones.nil)))) rfl rfl HM) ?_
                      rintro w4441 HM
                      refine ox rfl rfl rfl rfl (ex_assign rfl rfl) ?_
                      refine ops_nil (at_then ?_)
                      refine run_ret ?_
                      refine at_then_ret ?_
                      refine at_block_ret ?_
                      refine at_then_ret ?_
                      refine at_then_ret ?_
                      refine at_block_ret ?_
                      refine at_then_ret ?_
                      replace HM := hcl4080 _ _ HM
                      replace HM := HM.empty kRef 62 none
                      replace HM := HM.empty kOut 44 none
                      replace HM := (HM.front 3 rfl rfl).drop
                      replace HM := (HM.front 3 rfl rfl).drop
                      replace HM := (HM.front 3 rfl rfl).drop
                      replace HM := (HM.front 3 rfl rfl).drop
                      replace HM := (HM.front 3 rfl rfl).drop
                      replace HM := (HM.front 3 rfl rfl).drop
                      replace HM := HM.front 1 rfl rfl
                      replace HM := HM.front 2 rfl rfl
                      have hcb0 := HM.box_at 0 rfl
                      replace HM := (HM.front 0 rfl rfl).drop
                      have hR := Option.some.inj ho4378
                      subst hR
                      have hT := thn_inl H
                      have hR := Option.some.inj hT
                      subst hR
                      exact at_retN1 rfl rfl rfl Tryz.underlying28 rfl tsz28 rfl hcb0 ⟨_, rfl, _, _, rfl, HM⟩
                    · replace ho4378 := cond_f hb4440 ho4378
                      refine run_skip ?_
                      refine at_then ?_
                      obtain ⟨e4447, ho4378⟩ := chk_some ho4378
                      refine run_region rfl ?_
                      refine ox rfl rfl rfl rfl (ex_fieldAddr (off' := 3) rfl rfl Tryz.underlying28 rfl tsz26 rfl) ?_
                      refine ox rfl rfl rfl rfl (ex_load1 rfl rfl Tryz.underlying26 rfl ((HM.box_at 3 rfl) 3 _ rfl)) ?_
                      refine ox rfl rfl rfl rfl (ex_loadN (cs := [(.int .i64 t4429.1.fValue), u4431, (.int .i64 t4429.1.fRule.fNeed), (.int .i64 t4429.1.fRule.fAfter)]) rfl rfl Tryz.underlying44 rfl tsz44 rfl ((HM.box_at 0 rfl).sub 0 4 rfl)) ?_
                      replace HM := HM.front 1 rfl rfl
                      refine od rfl rfl rfl rfl (does_lit (e := 44) (cs := [(.int .i64 t4429.1.fValue), u4431, (.int .i64 t4429.1.fRule.fNeed), (.int .i64 t4429.1.fRule.fAfter)]) (xs := ([(⟨t4429.1.fValue, (⟨t4429.1.fRule.fKeys, t4429.1.fRule.fNeed, t4429.1.fRule.fAfter⟩ : Rule)⟩ : Out)] : List Out)) kOut rfl rfl (fun _ => by kernel_rfl) rfl rfl (fun _ _ h => by have := Elems.cons (d := kOut) (x := (⟨t4429.1.fValue, (⟨t4429.1.fRule.fKeys, t4429.1.fRule.fNeed, t4429.1.fRule.fAfter⟩ : Rule)⟩ : Out)) ⟨_, rfl, h⟩ .nil; rw [List.append_nil, List.append_nil] at this; exact this) HM) ?_
                      rintro v4444 w4450 HM
                      replace HM := HM.front 5 rfl rfl
                      refine od rfl rfl rfl rfl (does_append kOut rfl rfl rfl Tryz.underlying26 tsz44 rfl tby44 tz44 rfl rfl (leB_le e4447) HM) ?_
                      rintro v4448 w4451 HM
                      refine ox rfl rfl rfl rfl (ex_fieldAddr (off' := 3) rfl rfl Tryz.underlying28 rfl tsz26 rfl) ?_
                      replace HM := HM.front 3 rfl rfl
                      refine odS rfl rfl rfl (does_store (vs := [v4448]) (cs' := [.int .i64 t4089, .int .i64 a4148, v4226, v4448]) rfl rfl rfl (rd_cells (HM.own_rd 1 rfl)) tsz26 (Ones.rd (HM.own_rd 1 rfl) Ones.nil) rfl rfl HM) ?_
                      rintro w4452 HM
                      refine ops_nil ?_
                      refine at_block ?_
                      refine at_then ?_
                      refine run_region rfl ?_
                      refine ox rfl rfl rfl rfl (ex_add rfl rfl rfl) ?_
                      refine ox rfl rfl rfl rfl (ex_move rfl rfl) ?_
                      refine ops_nil ?_
                      replace HM := (HM.front 2 rfl rfl).drop
                      replace HM := HM.front 1 rfl rfl
                      replace HM := HM.front 3 rfl rfl
                      replace HM := HM.front 2 rfl rfl
                      replace HM := HM.front 3 rfl rfl
                      exact at_again k4424 (ρ1 := [(0, .string x0), (2, .pointer (some ⟨b4066, 0, none⟩)), (5, .pointer (some ⟨b4091, 0, none⟩)), (87, u4380), (88, .int .i64 ((a4146.drop ((1 : Int)).toNat).length : Int)), (89, .int .i64 (wrap64 (a4404 + 1)))]) (Nat.lt_succ_self _) ⟨_, _, _, ho4378, rfl, HM⟩ (Sub.cons rfl (Sub.cons rfl (Sub.cons rfl (Sub.cons rfl (Sub.cons rfl (Sub.cons rfl Sub.nil))))))
                  · replace ho4378 := cond_f hb4426 ho4378
                    refine run_exit ?_
                    refine at_then_exit ?_
                    refine at_then_exit ?_
                    refine at_block_exit ?_
                    exact at_mid (ρ' := [(0, .string x0), (2, .pointer (some ⟨b4066, 0, none⟩)), (5, .pointer (some ⟨b4091, 0, none⟩))]) ⟨_, _, (Option.some.inj ho4378), rfl, HM⟩ (Sub.cons rfl (Sub.cons rfl (Sub.cons rfl Sub.nil)))
                · rintro _ w4453 ⟨v4374, a4375, rfl, rfl, HM⟩
                  replace H := (thn_inr H)
                  refine run_seq ?_
                  refine run_seq ?_
                  obtain ⟨t4457, h4458, H⟩ := bind_some H
                  refine run_region rfl ?_
                  refine ox rfl rfl rfl rfl (ex_loadN (cs := [(.int .i64 t4089), (.int .i64 a4148), v4226, v4374]) rfl rfl Tryz.underlying28 rfl tsz28 rfl ((HM.box_at 1 rfl).sub 0 4 rfl)) ?_
                  refine od rfl rfl rfl rfl (does_callk rfl callok11 rfl (impl_TxFault.calls (x0 := (⟨t4089, a4148, a4227, a4375⟩ : Tx)) (HM.own_rd 2 rfl) (HM.own_rd 3 rfl) h4458)) ?_
                  rintro _ w4459 ⟨rfl, hn⟩
                  replace HM : Mem w4074 F4075 w4459 [box b4066 28 [.int .i64 0, .int .i64 0, .slice none 0 0, .slice none 0 0], box b4091 28 [.int .i64 t4089, .int .i64 a4148, v4226, v4374], own kRef 62 v4226 a4227, own kOut 44 v4374 a4375] := HM.call hn
                  refine ox rfl rfl rfl rfl (ex_neq rfl rfl rfl) ?_
                  refine ops_nil (at_then ?_)
                  refine run_cond (b := (t4457 != 0)) rfl (fun hb4460 => ?_) (fun hb4460 => ?_)
                  · replace H := cond_t hb4460 H
                    refine run_seq ?_
                    refine run_region rfl ?_
                    refine ox rfl rfl rfl rfl (ex_build (cells := #[(.int .i64 0), (.int .i64 0), (.slice none 0 0), (.slice none 0 0)]) rfl rfl (by kernel_rfl)) ?_
                    refine odS rfl rfl rfl (does_store (vs := [.int .i64 0, .int .i64 0, .slice none 0 0, .slice none 0 0]) (cs' := [.int .i64 0, .int .i64 0, .slice none 0 0, .slice none 0 0]) rfl rfl rfl rfl tsz28 (Ones.int (Ones.int (Ones.sl (Ones.sl Ones.nil)))) rfl rfl HM) ?_
                    rintro w4461 HM
                    refine ox rfl rfl rfl rfl (ex_assign rfl rfl) ?_
                    refine ops_nil (at_then ?_)
                    refine run_ret ?_
                    refine at_then_ret ?_
                    replace HM := hcl4080 _ _ HM
                    replace HM := HM.empty kRef 62 none
                    replace HM := HM.empty kOut 44 none
                    replace HM := (HM.front 3 rfl rfl).drop
                    replace HM := (HM.front 3 rfl rfl).drop
                    replace HM := (HM.front 3 rfl rfl).drop
                    replace HM := (HM.front 3 rfl rfl).drop
                    replace HM := HM.front 1 rfl rfl
                    replace HM := HM.front 2 rfl rfl
                    have hcb0 := HM.box_at 0 rfl
                    replace HM := (HM.front 0 rfl rfl).drop
                    have hR := Option.some.inj H
                    subst hR
                    exact at_retN1 rfl rfl rfl Tryz.underlying28 rfl tsz28 rfl hcb0 ⟨_, rfl, _, _, rfl, HM⟩
                  · replace H := cond_f hb4460 H
                    refine run_skip ?_
                    refine at_then ?_
                    refine run_seq ?_
                    obtain ⟨t4464, h4465, H⟩ := bind_some H
                    refine run_region rfl ?_
                    refine ox rfl rfl rfl rfl (ex_loadN (cs := [(.int .i64 t4089), (.int .i64 a4148), v4226, v4374]) rfl rfl Tryz.underlying28 rfl tsz28 rfl ((HM.box_at 1 rfl).sub 0 4 rfl)) ?_
                    refine od rfl rfl rfl rfl (does_callk rfl callok22 rfl (impl_txText.calls (x0 := (⟨t4089, a4148, a4227, a4375⟩ : Tx)) (HM.tabPo hwo htab) (HM.own_rd 2 rfl) (HM.own_rd 3 rfl) h4465)) ?_
                    rintro _ w4466 ⟨rfl, hn⟩
                    replace HM : Mem w4074 F4075 w4466 [box b4066 28 [.int .i64 0, .int .i64 0, .slice none 0 0, .slice none 0 0], box b4091 28 [.int .i64 t4089, .int .i64 a4148, v4226, v4374], own kRef 62 v4226 a4227, own kOut 44 v4374 a4375] := HM.call hn
                    refine ox rfl rfl rfl rfl (ex_move rfl rfl) ?_
                    refine ox rfl rfl rfl rfl (ex_extract rfl rfl rfl) ?_
                    refine ox rfl rfl rfl rfl (ex_extract rfl rfl rfl) ?_
                    refine ox rfl rfl rfl rfl (ex_assign rfl rfl) ?_
                    refine ox rfl rfl rfl rfl (ex_assign rfl rfl) ?_
                    refine ops_nil (at_then (run_seq ?_))
                    refine run_meet (fun ρ_ w_ => ρ_ = [(2, .pointer (some ⟨b4066, 0, none⟩)), (3, .bool ((t4464.2 == 0) && (sEq t4464.1 x0)))] ∧ Mem w4074 F4075 w_ [box b4066 28 [.int .i64 t4089, .int .i64 a4148, v4226, v4374], own kRef 62 v4226 a4227, own kOut 44 v4374 a4375]) ?_ ?_
                    · skip
                      refine run_region rfl ?_
                      refine ox rfl rfl rfl rfl (ex_loadN (cs := [(.int .i64 t4089), (.int .i64 a4148), v4226, v4374]) rfl rfl Tryz.underlying28 rfl tsz28 rfl ((HM.box_at 1 rfl).sub 0 4 rfl)) ?_
                      refine ox rfl rfl rfl rfl (ex_move rfl rfl) ?_
                      refine ox rfl rfl rfl rfl (ex_eql rfl rfl rfl) ?_
                      refine ox rfl rfl rfl rfl (ex_move rfl rfl) ?_
                      refine bool_cases (t4464.2 == 0) (fun hg4467 => ?_) (fun hg4467 => ?_)
                      · skip
                        refine ops_ex rfl (guard_on rfl rfl rfl hg4467) rfl rfl (ex_move rfl rfl) ?_
                        refine ops_ex rfl (guard_on rfl rfl rfl hg4467) rfl rfl (ex_move rfl rfl) ?_
                        refine ops_ex rfl (guard_on rfl rfl rfl hg4467) rfl rfl (ex_seql rfl rfl rfl) ?_
                        refine ops_ex (v := .bool ((t4464.2 == 0) && (sEq t4464.1 x0))) rfl (guard_none rfl) rfl rfl (ex_pand_t rfl rfl hg4467 rfl) ?_
                        refine odS rfl rfl rfl (does_store (vs := [.int .i64 t4089, .int .i64 a4148, v4226, v4374]) (cs' := [.int .i64 t4089, .int .i64 a4148, v4226, v4374]) rfl rfl rfl rfl tsz28 (Ones.int (Ones.int (Ones.rd (HM.own_rd 2 rfl) (Ones.rd (HM.own_rd 3 rfl) Ones.nil)))) rfl rfl HM) ?_
                        rintro w4468 HM
                        refine ox rfl rfl rfl rfl (ex_assign rfl rfl) ?_
                        refine ops_nil ?_
                        replace HM := (HM.front 1 rfl rfl).drop
                        exact at_meet [(2, .pointer (some ⟨b4066, 0, none⟩)), (3, .bool ((t4464.2 == 0) && (sEq t4464.1 x0)))] ⟨rfl, HM⟩ (Sub.cons rfl (Sub.cons rfl Sub.nil))
                      · skip
                        refine ops_off rfl (guard_off rfl rfl rfl hg4467) rfl rfl ?_
                        refine ops_off rfl (guard_off rfl rfl rfl hg4467) rfl rfl ?_
                        refine ops_off rfl (guard_off rfl rfl rfl hg4467) rfl rfl ?_
                        have hg4469 : ((t4464.2 == 0) && (sEq t4464.1 x0)) = false := by simp only [hg4467, Bool.and_true, Bool.true_and, Bool.and_false, Bool.false_and, Bool.or_true, Bool.true_or, Bool.or_false, Bool.false_or, Bool.not_true, Bool.not_false, Bool.not_not]
                        refine ops_ex (v := .bool ((t4464.2 == 0) && (sEq t4464.1 x0))) rfl (guard_none rfl) rfl rfl (ex_pand_f rfl rfl hg4467) ?_
                        refine odS rfl rfl rfl (does_store (vs := [.int .i64 t4089, .int .i64 a4148, v4226, v4374]) (cs' := [.int .i64 t4089, .int .i64 a4148, v4226, v4374]) rfl rfl rfl rfl tsz28 (Ones.int (Ones.int (Ones.rd (HM.own_rd 2 rfl) (Ones.rd (HM.own_rd 3 rfl) Ones.nil)))) rfl rfl HM) ?_
                        rintro w4470 HM
                        refine ox rfl rfl rfl rfl (ex_assign rfl rfl) ?_
                        refine ops_nil ?_
                        replace HM := (HM.front 1 rfl rfl).drop
                        exact at_meet [(2, .pointer (some ⟨b4066, 0, none⟩)), (3, .bool ((t4464.2 == 0) && (sEq t4464.1 x0)))] ⟨rfl, HM⟩ (Sub.cons rfl (Sub.cons rfl Sub.nil))
                    · rintro _ w4471 ⟨rfl, HM⟩
                      refine at_then ?_
                      refine run_ret ?_
                      replace HM := hcl4080 _ _ HM
                      replace HM := (HM.front 3 rfl rfl).drop
                      have hcb0 := HM.box_at 0 rfl
                      replace HM := (HM.front 0 rfl rfl).drop
                      have hR := Option.some.inj H
                      subst hR
                      exact at_retN1 rfl rfl rfl Tryz.underlying28 rfl tsz28 rfl hcb0 ⟨_, rfl, _, _, rfl, HM⟩
end Go.Proofs.YtmaolhocmkkmjaaGreatDoor.Zk
