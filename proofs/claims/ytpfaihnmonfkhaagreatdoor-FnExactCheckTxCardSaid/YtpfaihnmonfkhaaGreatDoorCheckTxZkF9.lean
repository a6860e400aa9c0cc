/- What functions of the program compute, each as a plain function, and that they do. Conditions: as each theorem states them. -/
import Derived.Test.YtpfaihnmonfkhaaGreatDoorCheckTxZkF8
namespace Go.Proofs.YtpfaihnmonfkhaaGreatDoor.Zk
open Go Go.RowKit Go.IntWalk Go.Proofs
set_option linter.unusedVariables false
set_option linter.unusedSimpArgs false
set_option maxRecDepth 100000
set_option maxHeartbeats 4000000
def impl_ruleText.f (k : Nat) (x0 : Rule) (x1 : ByteArray) : Option ByteArray := ((impl_dec.f k x0.fNeed).bind fun t6865 => (chk (leB (t6865.size + x1.size) 9223372036854775807) (chk (leB ((t6865 ++ x1).size + (⟨#[111, 102]⟩ : ByteArray).size) 9223372036854775807) (chk (leB (((t6865 ++ x1) ++ (⟨#[111, 102]⟩ : ByteArray)).size + x1.size) 9223372036854775807) ((impl_joined.f k x0.fKeys (⟨#[44]⟩ : ByteArray)).bind fun t6870 => (chk (leB ((((t6865 ++ x1) ++ (⟨#[111, 102]⟩ : ByteArray)) ++ x1).size + t6870.size) 9223372036854775807) (bif (x0.fAfter != 0) then (chk (leB (x1.size + (⟨#[97, 102, 116, 101, 114]⟩ : ByteArray).size) 9223372036854775807) (chk (leB ((x1 ++ (⟨#[97, 102, 116, 101, 114]⟩ : ByteArray)).size + x1.size) 9223372036854775807) ((impl_dec.f k x0.fAfter).bind fun t6878 => (chk (leB (((x1 ++ (⟨#[97, 102, 116, 101, 114]⟩ : ByteArray)) ++ x1).size + t6878.size) 9223372036854775807) (chk (leB (((((t6865 ++ x1) ++ (⟨#[111, 102]⟩ : ByteArray)) ++ x1) ++ t6870).size + (((x1 ++ (⟨#[97, 102, 116, 101, 114]⟩ : ByteArray)) ++ x1) ++ t6878).size) 9223372036854775807) (some (((((t6865 ++ x1) ++ (⟨#[111, 102]⟩ : ByteArray)) ++ x1) ++ t6870) ++ (((x1 ++ (⟨#[97, 102, 116, 101, 114]⟩ : ByteArray)) ++ x1) ++ t6878)))))))) else some ((((t6865 ++ x1) ++ (⟨#[111, 102]⟩ : ByteArray)) ++ x1) ++ t6870))))))))
theorem impl_ruleText.calls {k : Nat} {x0 : Rule} {x1 : ByteArray} {p0_0 : Value} {w : World} (htab : Tab w) (hp0_0 : RdS kInt w p0_0 x0.fKeys) {r : ByteArray} (H : impl_ruleText.f k x0 x1 = some r) :
  Calls Tryz.prog 102 ([.agg #[p0_0, (.int .i64 x0.fNeed), (.int .i64 x0.fAfter)], .string x1] : List Value).toArray w (fun e w_ => ∃ v, e = .returned v ∧ v = (.string r) ∧ Mem w [] w_ []) := by
 have HM := Mem.start w
 refine calls_run (N := 32) Tryz.func102 rfl rfl rfl rfl ?_
 unfold impl_ruleText.f at H
 refine run_seq ?_
 refine run_region rfl ?_
 refine od rfl rfl rfl rfl (does_box (cs := [p0_0, .int .i64 x0.fNeed, .int .i64 x0.fAfter]) rfl rfl rfl HM) ?_
 rintro _ w6864 ⟨b6861, rfl, HM⟩
 refine ox rfl rfl rfl rfl (ex_assign rfl rfl) ?_
 refine ops_nil (at_then (run_seq ?_))
 obtain ⟨t6865, h6866, H⟩ := bind_some H
 obtain ⟨e6867, H⟩ := chk_some H
 obtain ⟨e6868, H⟩ := chk_some H
 obtain ⟨e6869, H⟩ := chk_some H
 obtain ⟨t6870, h6871, H⟩ := bind_some H
 obtain ⟨e6872, H⟩ := chk_some H
 refine run_drawf (fun w_ => Mem w [] w_ [box b6861 82 [p0_0, .int .i64 x0.fNeed, .int .i64 x0.fAfter]]) [(0, true), (1, true), (3, true), (6, true), (8, true), (9, true), (2, false), (4, true), (5, true), (7, true), (10, false), (11, true), (12, true)] mixed rfl rfl (by kernel_rfl) ?_
 replace HM := HM.grow (fr_drew _)
 have hS := Mem.suf (M := []) HM
 refine dp rfl rfl rfl rfl (ex_fieldAddr (off' := 1) rfl rfl Tryz.underlying82 rfl tsz2 rfl) hS ?_
 refine drwp_take rfl (guard_none rfl) rfl rfl (fun w_ hS_ => (ex_load1 rfl rfl Tryz.underlying2 rfl ((hS_.box_at 0 rfl) 1 _ rfl))) hS ?_
 refine dp rfl rfl rfl rfl (ex_move rfl rfl) hS ?_
 refine dp rfl rfl rfl rfl (ex_move rfl rfl) hS ?_
 refine dp rfl rfl rfl rfl (ex_fieldAddr (off' := 0) rfl rfl Tryz.underlying82 rfl tsz58 rfl) hS ?_
 refine drwp_take rfl (guard_none rfl) rfl rfl (fun w_ hS_ => (ex_load1 rfl rfl Tryz.underlying58 rfl ((hS_.box_at 0 rfl) 0 _ rfl))) hS ?_
 refine drwp_one rfl (guard_none rfl) rfl rfl (does_callk rfl callok100 rfl (impl_dec.calls (x0 := x0.fNeed) (HM.tab htab) h6866)) ?_
 rintro _ w6873 ⟨rfl, hn⟩
 replace HM : Mem w [] w6873 [box b6861 82 [p0_0, .int .i64 x0.fNeed, .int .i64 x0.fAfter]] := HM.call hn
 have hS := Mem.suf (M := []) HM
 refine ⟨hS, ?_⟩
 refine dp rfl rfl rfl rfl (ex_sadd rfl rfl rfl (leB_le e6867)) hS ?_
 refine dp rfl rfl rfl rfl (ex_sadd rfl rfl rfl (leB_le e6868)) hS ?_
 refine dp rfl rfl rfl rfl (ex_sadd rfl rfl rfl (leB_le e6869)) hS ?_
 refine drwp_one rfl (guard_none rfl) rfl rfl (does_callk rfl callok117 rfl (impl_joined.calls (x0 := x0.fKeys) (x1 := (⟨#[44]⟩ : ByteArray)) (HM.tab htab) (HM.rd hp0_0) h6871)) ?_
 rintro _ w6874 ⟨rfl, hn⟩
 replace HM : Mem w [] w6874 [box b6861 82 [p0_0, .int .i64 x0.fNeed, .int .i64 x0.fAfter]] := HM.call hn
 have hS := Mem.suf (M := []) HM
 refine ⟨hS, ?_⟩
 refine dp rfl rfl rfl rfl (ex_sadd rfl rfl rfl (leB_le e6872)) hS ?_
 refine dp rfl rfl rfl rfl (ex_assign rfl rfl) hS ?_
 refine drwp_done ?_
 refine at_then ?_
 refine run_seq ?_
 refine run_seq ?_
 refine run_region rfl ?_
 refine ox rfl rfl rfl rfl (ex_fieldAddr (off' := 2) rfl rfl Tryz.underlying82 rfl tsz2 rfl) ?_
 refine ox rfl rfl rfl rfl (ex_load1 rfl rfl Tryz.underlying2 rfl ((HM.box_at 0 rfl) 2 _ rfl)) ?_
 refine ox rfl rfl rfl rfl (ex_neq rfl rfl rfl) ?_
 refine ops_nil (at_then ?_)
 refine run_cond (b := (x0.fAfter != 0)) rfl (fun hb6875 => ?_) (fun hb6875 => ?_)
 ·replace H := cond_t hb6875 H
  obtain ⟨e6876, H⟩ := chk_some H
  obtain ⟨e6877, H⟩ := chk_some H
  obtain ⟨t6878, h6879, H⟩ := bind_some H
  obtain ⟨e6880, H⟩ := chk_some H
  obtain ⟨e6881, H⟩ := chk_some H
  refine run_region rfl ?_
  refine ox rfl rfl rfl rfl (ex_move rfl rfl) ?_
  refine ox rfl rfl rfl rfl (ex_move rfl rfl) ?_
  refine ox rfl rfl rfl rfl (ex_sadd rfl rfl rfl (leB_le e6876)) ?_
  refine ox rfl rfl rfl rfl (ex_move rfl rfl) ?_
  refine ox rfl rfl rfl rfl (ex_sadd rfl rfl rfl (leB_le e6877)) ?_
  refine ox rfl rfl rfl rfl (ex_fieldAddr (off' := 2) rfl rfl Tryz.underlying82 rfl tsz2 rfl) ?_
  refine ox rfl rfl rfl rfl (ex_load1 rfl rfl Tryz.underlying2 rfl ((HM.box_at 0 rfl) 2 _ rfl)) ?_
  refine od rfl rfl rfl rfl (does_callk rfl callok100 rfl (impl_dec.calls (x0 := x0.fAfter) (HM.tab htab) h6879)) ?_
  rintro _ w6882 ⟨rfl, hn⟩
  replace HM : Mem w [] w6882 [box b6861 82 [p0_0, .int .i64 x0.fNeed, .int .i64 x0.fAfter]] := HM.call hn
  refine ox rfl rfl rfl rfl (ex_sadd rfl rfl rfl (leB_le e6880)) ?_
  refine ox rfl rfl rfl rfl (ex_sadd rfl rfl rfl (leB_le e6881)) ?_
  refine ox rfl rfl rfl rfl (ex_assign rfl rfl) ?_
  refine ops_nil (at_then (run_seq ?_))
  refine run_region rfl ?_
  refine ox rfl rfl rfl rfl (ex_move rfl rfl) ?_
  refine ox rfl rfl rfl rfl (ex_assign rfl rfl) ?_
  refine ops_nil (at_then ?_)
  refine run_ret ?_
  replace HM := (HM.front 0 rfl rfl).drop
  have hR := Option.some.inj H
  subst hR
  exact at_ret1 rfl rfl ⟨_, rfl, rfl, HM⟩
 ·replace H := cond_f hb6875 H
  refine run_skip ?_
  refine at_then ?_
  refine run_seq ?_
  refine run_region rfl ?_
  refine ox rfl rfl rfl rfl (ex_move rfl rfl) ?_
  refine ox rfl rfl rfl rfl (ex_assign rfl rfl) ?_
  refine ops_nil (at_then ?_)
  refine run_ret ?_
  replace HM := (HM.front 0 rfl rfl).drop
  have hR := Option.some.inj H
  subst hR
  exact at_ret1 rfl rfl ⟨_, rfl, rfl, HM⟩

def impl_txText.l0 (x0 : Tx) : Nat → (List ByteArray) → Int → Option ((List ByteArray))
 | 0, _, _ => none
 | k + 1, a7080, a7082 => (bif (decide (a7082 < (x0.fIns.length : Int))) then (chk (idxOk a7082 x0.fIns.length) ((impl_dec.f k ((gt x0.fIns a7082).fTx)).bind fun t7111 => (chk (leB (t7111.size + (⟨#[58]⟩ : ByteArray).size) 9223372036854775807) ((impl_dec.f k ((gt x0.fIns a7082).fAt)).bind fun t7114 => (chk (leB ((t7111 ++ (⟨#[58]⟩ : ByteArray)).size + t7114.size) 9223372036854775807) (chk (leB ((a7080.length + ([(t7111 ++ (⟨#[58]⟩ : ByteArray)) ++ t7114] : List ByteArray).length) * 16) 140737488355328) (impl_txText.l0 x0 k (a7080 ++ ([(t7111 ++ (⟨#[58]⟩ : ByteArray)) ++ t7114] : List ByteArray)) (wrap64 (a7082 + 1))))))))) else some a7080)
theorem impl_txText.l0_z (x0 : Tx) (a7080 : List ByteArray) (a7082 : Int) : impl_txText.l0 x0 0 a7080 a7082 = none := rfl
theorem impl_txText.l0_s (x0 : Tx) (k : Nat) (a7080 : List ByteArray) (a7082 : Int) : impl_txText.l0 x0 (k + 1) a7080 a7082 = (bif (decide (a7082 < (x0.fIns.length : Int))) then (chk (idxOk a7082 x0.fIns.length) ((impl_dec.f k ((gt x0.fIns a7082).fTx)).bind fun t7111 => (chk (leB (t7111.size + (⟨#[58]⟩ : ByteArray).size) 9223372036854775807) ((impl_dec.f k ((gt x0.fIns a7082).fAt)).bind fun t7114 => (chk (leB ((t7111 ++ (⟨#[58]⟩ : ByteArray)).size + t7114.size) 9223372036854775807) (chk (leB ((a7080.length + ([(t7111 ++ (⟨#[58]⟩ : ByteArray)) ++ t7114] : List ByteArray).length) * 16) 140737488355328) (impl_txText.l0 x0 k (a7080 ++ ([(t7111 ++ (⟨#[58]⟩ : ByteArray)) ++ t7114] : List ByteArray)) (wrap64 (a7082 + 1))))))))) else some a7080) := rfl
def impl_txText.l1 (x0 : Tx) : Nat → (List ByteArray) → Int → Option ((List ByteArray))
 | 0, _, _ => none
 | k + 1, a7229, a7231 => (bif (decide (a7231 < (x0.fOuts.length : Int))) then (chk (idxOk a7231 x0.fOuts.length) ((impl_dec.f k ((gt x0.fOuts a7231).fValue)).bind fun t7264 => (chk (leB (t7264.size + (⟨#[61]⟩ : ByteArray).size) 9223372036854775807) ((impl_ruleText.f k ((gt x0.fOuts a7231).fRule) (⟨#[95]⟩ : ByteArray)).bind fun t7267 => (chk (leB ((t7264 ++ (⟨#[61]⟩ : ByteArray)).size + t7267.size) 9223372036854775807) (chk (leB ((a7229.length + ([(t7264 ++ (⟨#[61]⟩ : ByteArray)) ++ t7267] : List ByteArray).length) * 16) 140737488355328) (impl_txText.l1 x0 k (a7229 ++ ([(t7264 ++ (⟨#[61]⟩ : ByteArray)) ++ t7267] : List ByteArray)) (wrap64 (a7231 + 1))))))))) else some a7229)
theorem impl_txText.l1_z (x0 : Tx) (a7229 : List ByteArray) (a7231 : Int) : impl_txText.l1 x0 0 a7229 a7231 = none := rfl
theorem impl_txText.l1_s (x0 : Tx) (k : Nat) (a7229 : List ByteArray) (a7231 : Int) : impl_txText.l1 x0 (k + 1) a7229 a7231 = (bif (decide (a7231 < (x0.fOuts.length : Int))) then (chk (idxOk a7231 x0.fOuts.length) ((impl_dec.f k ((gt x0.fOuts a7231).fValue)).bind fun t7264 => (chk (leB (t7264.size + (⟨#[61]⟩ : ByteArray).size) 9223372036854775807) ((impl_ruleText.f k ((gt x0.fOuts a7231).fRule) (⟨#[95]⟩ : ByteArray)).bind fun t7267 => (chk (leB ((t7264 ++ (⟨#[61]⟩ : ByteArray)).size + t7267.size) 9223372036854775807) (chk (leB ((a7229.length + ([(t7264 ++ (⟨#[61]⟩ : ByteArray)) ++ t7267] : List ByteArray).length) * 16) 140737488355328) (impl_txText.l1 x0 k (a7229 ++ ([(t7264 ++ (⟨#[61]⟩ : ByteArray)) ++ t7267] : List ByteArray)) (wrap64 (a7231 + 1))))))))) else some a7229) := rfl
def impl_txText.f (k : Nat) (x0 : Tx) : Option (ByteArray × Int) := ((impl_kindWords.f k).bind fun t6948 => (chk (idxOk x0.fKind t6948.length) ((bif (x0.fKind != 0) then ((impl_dec.f k x0.fMember).bind fun t6982 => (chk (leB ((([(gt t6948 x0.fKind)] : List ByteArray).length + ([t6982] : List ByteArray).length) * 16) 140737488355328) (some (([(gt t6948 x0.fKind)] : List ByteArray) ++ ([t6982] : List ByteArray))))) else some ([(gt t6948 x0.fKind)] : List ByteArray)).bind (fun a6977 => ((impl_txText.l0 x0 k ([] : List ByteArray) 0).bind (fun a7057 => ((strings_Join.f k a7057 (⟨#[43]⟩ : ByteArray)).bind fun t7128 => (chk (leB ((a6977.length + ([t7128] : List ByteArray).length) * 16) 140737488355328) ((impl_txText.l1 x0 k (a6977 ++ ([t7128] : List ByteArray)) 0).bind (fun a7204 => ((strings_Join.f k a7204 (⟨#[32]⟩ : ByteArray)).bind fun t7281 => (bif (decide (300 < (t7281.size : Int))) then some ((⟨#[]⟩ : ByteArray), 2) else some (t7281, 0)))))))))))))
theorem impl_txText.calls {k : Nat} {x0 : Tx} {p0_0 : Value} {p0_1 : Value} {w : World} (htab : Tab w) (hp0_0 : RdS kRef w p0_0 x0.fIns) (hp0_1 : RdS kOut w p0_1 x0.fOuts) {r : ByteArray × Int} (H : impl_txText.f k x0 = some r) :
  Calls Tryz.prog 73 ([.agg #[(.int .i64 x0.fKind), (.int .i64 x0.fMember), p0_0, p0_1]] : List Value).toArray w (fun e w_ => ∃ v, e = .returned v ∧ v = (.tuple #[.string r.1, .int .i64 r.2]) ∧ Mem w [] w_ []) := by
 have HM := Mem.start w
 refine calls_run (N := 76) Tryz.func73 rfl rfl rfl rfl ?_
 unfold impl_txText.f at H
 refine run_seq ?_
 refine run_region rfl ?_
 refine od rfl rfl rfl rfl (does_box (cs := [.int .i64 x0.fKind, .int .i64 x0.fMember, p0_0, p0_1]) rfl rfl rfl HM) ?_
 rintro _ w6947 ⟨b6944, rfl, HM⟩
 refine ox rfl rfl rfl rfl (ex_assign rfl rfl) ?_
 refine ox rfl rfl rfl rfl (ex_assign rfl rfl) ?_
 refine ops_nil (at_then (run_seq ?_))
 obtain ⟨t6948, h6949, H⟩ := bind_some H
 obtain ⟨e6952, H⟩ := chk_some H
 refine run_drawf (fun w_ => Mem w [] w_ [box b6944 46 [.int .i64 x0.fKind, .int .i64 x0.fMember, p0_0, p0_1]]) [(1, true), (2, true), (0, false), (3, true), (4, false), (5, false), (6, true)] mixed rfl rfl (by kernel_rfl) ?_
 replace HM := HM.grow (fr_drew _)
 have hS := Mem.suf (M := []) HM
 refine dp rfl rfl rfl rfl (ex_fieldAddr (off' := 0) rfl rfl Tryz.underlying46 rfl tsz2 rfl) hS ?_
 refine drwp_take rfl (guard_none rfl) rfl rfl (fun w_ hS_ => (ex_load1 rfl rfl Tryz.underlying2 rfl ((hS_.box_at 0 rfl) 0 _ rfl))) hS ?_
 refine drwp_one rfl (guard_none rfl) rfl rfl (does_callk rfl callok99 rfl (impl_kindWords.calls h6949)) ?_
 rintro u6950 w6956 ⟨_, rfl, hn⟩
 replace HM : Mem w [] w6956 [own kStr 9 u6950 t6948, box b6944 46 [.int .i64 x0.fKind, .int .i64 x0.fMember, p0_0, p0_1]] := HM.call hn
 have hS := Mem.suf (M := [own kStr 9 u6950 t6948]) HM
 refine ⟨hS, ?_⟩
 refine dp rfl rfl rfl rfl (ex_indexAddr (d := kStr) rfl rfl rfl Tryz.underlying22 tsz9 (HM.own_rd 0 rfl) (idx_lo e6952) (idx_hi e6952)) hS ?_
 refine drwp_one rfl (guard_none rfl) rfl rfl (does_ex (ex_load1 rfl rfl Tryz.underlying9 rfl ((rd_plain (HM.own_rd 0 rfl) e6952) 0 _ rfl))) ?_
 rintro _ _ ⟨rfl, rfl⟩
 refine ⟨hS, ?_⟩
 refine drwp_one rfl (guard_none rfl) rfl rfl (does_lit (e := 9) (cs := [.string (gt t6948 x0.fKind)]) (xs := ([(gt t6948 x0.fKind)] : List ByteArray)) kStr rfl rfl (fun _ => by kernel_rfl) rfl rfl (fun _ _ h => by have h' : _ = [] := h; subst h'; exact (Elems.cons (d := kStr) (x := (gt t6948 x0.fKind)) (f := []) ⟨rfl, rfl⟩ .nil)) HM.emp) ?_
 rintro v6953 w6957 HM
 have hS := Mem.suf (M := [own kStr 9 v6953 ([(gt t6948 x0.fKind)] : List ByteArray), own kStr 9 u6950 t6948]) HM
 refine ⟨hS, ?_⟩
 refine dp rfl rfl rfl rfl (ex_assign rfl rfl) hS ?_
 refine drwp_done ?_
 refine at_then ?_
 obtain ⟨o6979, ho6980, H⟩ := bind_some H
 refine run_mid (fun ρ_ w_ => ∃ v6976 : Value, ∃ a6977 : List ByteArray, a6977 = o6979 ∧ ρ_ = [(1, .pointer (some ⟨b6944, 0, none⟩)), (4, v6976)] ∧ Mem w [] w_ [box b6944 46 [.int .i64 x0.fKind, .int .i64 x0.fMember, p0_0, p0_1], own kStr 9 v6976 a6977]) ?_ ?_
 ·clear H
  refine run_seq ?_
  refine run_region rfl ?_
  refine ox rfl rfl rfl rfl (ex_fieldAddr (off' := 0) rfl rfl Tryz.underlying46 rfl tsz2 rfl) ?_
  refine ox rfl rfl rfl rfl (ex_load1 rfl rfl Tryz.underlying2 rfl ((HM.box_at 2 rfl) 0 _ rfl)) ?_
  refine ox rfl rfl rfl rfl (ex_neq rfl rfl rfl) ?_
  refine ops_nil (at_then ?_)
  refine run_cond (b := (x0.fKind != 0)) rfl (fun hb6981 => ?_) (fun hb6981 => ?_)
  ·replace ho6980 := cond_t hb6981 ho6980
   obtain ⟨t6982, h6983, ho6980⟩ := bind_some ho6980
   obtain ⟨e6987, ho6980⟩ := chk_some ho6980
   refine run_region rfl ?_
   refine ox rfl rfl rfl rfl (ex_move rfl rfl) ?_
   refine ox rfl rfl rfl rfl (ex_fieldAddr (off' := 1) rfl rfl Tryz.underlying46 rfl tsz2 rfl) ?_
   refine ox rfl rfl rfl rfl (ex_load1 rfl rfl Tryz.underlying2 rfl ((HM.box_at 2 rfl) 1 _ rfl)) ?_
   refine od rfl rfl rfl rfl (does_callk rfl callok100 rfl (impl_dec.calls (x0 := x0.fMember) (HM.tab htab) h6983)) ?_
   rintro _ w6990 ⟨rfl, hn⟩
   replace HM : Mem w [] w6990 [own kStr 9 v6953 ([(gt t6948 x0.fKind)] : List ByteArray), own kStr 9 u6950 t6948, box b6944 46 [.int .i64 x0.fKind, .int .i64 x0.fMember, p0_0, p0_1]] := HM.call hn
   refine od rfl rfl rfl rfl (does_lit (e := 9) (cs := [.string t6982]) (xs := ([t6982] : List ByteArray)) kStr rfl rfl (fun _ => by kernel_rfl) rfl rfl (fun _ _ h => by have h' : _ = [] := h; subst h'; exact (Elems.cons (d := kStr) (x := t6982) (f := []) ⟨rfl, rfl⟩ .nil)) HM.emp) ?_
   rintro v6984 w6991 HM
   replace HM := HM.front 1 rfl rfl
   refine od rfl rfl rfl rfl (does_appendR kStr flat_plain rfl rfl rfl Tryz.underlying22 tsz9 rfl tby9 tz9 rfl rfl (leB_le e6987) (HM.own_rd 1 rfl) HM) ?_
   rintro v6988 w6992 HM
   refine ox rfl rfl rfl rfl (ex_assign rfl rfl) ?_
   refine ops_nil ?_
   replace HM := (HM.front 1 rfl rfl).drop
   replace HM := (HM.front 1 rfl rfl).drop
   replace HM := HM.front 1 rfl rfl
   exact at_mid (ρ' := [(1, .pointer (some ⟨b6944, 0, none⟩)), (4, v6988)]) ⟨_, _, (Option.some.inj ho6980), rfl, HM⟩ (Sub.cons rfl (Sub.cons rfl Sub.nil))
  ·replace ho6980 := cond_f hb6981 ho6980
   refine run_skip ?_
   replace HM := (HM.front 1 rfl rfl).drop
   replace HM := HM.front 1 rfl rfl
   exact at_mid (ρ' := [(1, .pointer (some ⟨b6944, 0, none⟩)), (4, v6953)]) ⟨_, _, (Option.some.inj ho6980), rfl, HM⟩ (Sub.cons rfl (Sub.cons rfl Sub.nil))
 ·rintro _ w6993 ⟨v6976, a6977, rfl, rfl, HM⟩
  refine run_seq ?_
  refine run_region rfl ?_
  refine od rfl rfl rfl rfl (does_lit (e := 9) (cs := []) (xs := ([] : List ByteArray)) kStr rfl rfl (fun _ => by kernel_rfl) rfl rfl (fun _ _ h => by have h' : _ = [] := h; subst h'; exact .nil) HM.emp) ?_
  rintro v6994 w6997 HM
  refine ox rfl rfl rfl rfl (ex_assign rfl rfl) ?_
  refine ops_nil (at_then ?_)
  obtain ⟨o7059, ho7060, H⟩ := bind_some H
  refine run_mid (fun ρ_ w_ => ∃ v7056 : Value, ∃ a7057 : List ByteArray, a7057 = o7059 ∧ ρ_ = [(1, .pointer (some ⟨b6944, 0, none⟩)), (4, v6976), (5, v7056)] ∧ Mem w [] w_ [box b6944 46 [.int .i64 x0.fKind, .int .i64 x0.fMember, p0_0, p0_1], own kStr 9 v6976 a6977, own kStr 9 v7056 a7057]) ?_ ?_
  ·clear H
   refine run_seq ?_
   refine run_region rfl ?_
   refine ox rfl rfl rfl rfl (ex_fieldAddr (off' := 2) rfl rfl Tryz.underlying46 rfl tsz43 rfl) ?_
   refine ox rfl rfl rfl rfl (ex_load1 rfl rfl Tryz.underlying43 rfl ((HM.box_at 1 rfl) 2 _ rfl)) ?_
   refine ox rfl rfl rfl rfl (ex_len (d := kRef) (xs := x0.fIns) rfl rfl Tryz.underlying43 hp0_0) ?_
   refine ox rfl rfl rfl rfl (ex_move rfl rfl) ?_
   refine ops_nil (at_then ?_)
   refine run_block ?_
   replace HM := HM.front 2 rfl rfl
   replace HM := HM.front 2 rfl rfl
   refine run_loop (fun k_ ρ_ w_ => ∃ v7079 : Value, ∃ a7080 : List ByteArray, ∃ a7082 : Int, impl_txText.l0 x0 k_ a7080 a7082 = some o7059 ∧ ρ_ = [(1, .pointer (some ⟨b6944, 0, none⟩)), (4, v6976), (5, v7079), (28, p0_0), (29, .int .i64 (x0.fIns.length : Int)), (30, .int .i64 a7082)] ∧ Mem w [] w_ [box b6944 46 [.int .i64 x0.fKind, .int .i64 x0.fMember, p0_0, p0_1], own kStr 9 v6976 a6977, own kStr 9 v7079 a7080]) k (ρ1 := [(1, .pointer (some ⟨b6944, 0, none⟩)), (4, v6976), (5, v6994), (28, p0_0), (29, .int .i64 (x0.fIns.length : Int)), (30, .int .i64 0)]) ⟨_, _, _, ho7060, rfl, HM⟩ (Sub.cons rfl (Sub.cons rfl (Sub.cons rfl (Sub.cons rfl (Sub.cons rfl (Sub.cons rfl Sub.nil)))))) ?_
   clear HM ho7060
   rintro k7101 _ w7102 ⟨v7079, a7080, a7082, ho7060, rfl, HM⟩
   obtain _ | k7101 := k7101
   ·exact nomatch ((impl_txText.l0_z x0 a7080 a7082).symm.trans ho7060)
   replace ho7060 := (impl_txText.l0_s x0 k7101 a7080 a7082).symm.trans ho7060
   refine run_seq ?_
   refine run_region rfl ?_
   refine ox rfl rfl rfl rfl (ex_lss rfl rfl rfl) ?_
   refine ops_nil (at_then (run_seq ?_))
   refine run_cond (b := (decide (a7082 < (x0.fIns.length : Int)))) rfl (fun hb7103 => ?_) (fun hb7103 => ?_)
   ·replace ho7060 := cond_t hb7103 ho7060
    refine run_skip ?_
    refine at_then ?_
    refine run_seq ?_
    refine run_block ?_
    refine run_seq ?_
    obtain ⟨e7104, ho7060⟩ := chk_some ho7060
    refine run_region rfl ?_
    have hc7105 : CellsAt _ (sb p0_0) (so p0_0 + (a7082).toNat * 2) [(.int .i64 ((gt x0.fIns a7082).fTx)), (.int .i64 ((gt x0.fIns a7082).fAt))] := rd_plain hp0_0 e7104
    refine ox rfl rfl rfl rfl (ex_indexAddr (d := kRef) rfl rfl rfl Tryz.underlying43 tsz81 hp0_0 (idx_lo e7104) (idx_hi e7104)) ?_
    refine ox rfl rfl rfl rfl (ex_loadN (cs := [(.int .i64 ((gt x0.fIns a7082).fTx)), (.int .i64 ((gt x0.fIns a7082).fAt))]) rfl rfl Tryz.underlying81 rfl tsz81 rfl ((HM.at_ hc7105).sub 0 2 rfl)) ?_
    refine od rfl rfl rfl rfl (does_alloc (cs := [.int .i64 0, .int .i64 0]) rfl tz81 rfl HM) ?_
    rintro _ w7109 ⟨b7106, rfl, HM⟩
    refine odS rfl rfl rfl (does_store (vs := [.int .i64 ((gt x0.fIns a7082).fTx), .int .i64 ((gt x0.fIns a7082).fAt)]) (cs' := [.int .i64 ((gt x0.fIns a7082).fTx), .int .i64 ((gt x0.fIns a7082).fAt)]) rfl rfl rfl rfl tsz81 (Ones.int (Ones.int Ones.nil)) rfl rfl HM) ?_
    rintro w7110 HM
    refine ops_nil (at_then ?_)
    obtain ⟨t7111, h7112, ho7060⟩ := bind_some ho7060
    obtain ⟨e7113, ho7060⟩ := chk_some ho7060
    obtain ⟨t7114, h7115, ho7060⟩ := bind_some ho7060
    obtain ⟨e7116, ho7060⟩ := chk_some ho7060
    obtain ⟨e7120, ho7060⟩ := chk_some ho7060
    replace HM := HM.front 3 rfl rfl
    refine run_drawf (fun w_ => Mem w [] w_ [box b7106 81 [.int .i64 ((gt x0.fIns a7082).fTx), .int .i64 ((gt x0.fIns a7082).fAt)], box b6944 46 [.int .i64 x0.fKind, .int .i64 x0.fMember, p0_0, p0_1], own kStr 9 v6976 a6977]) [(0, true), (1, true), (2, true), (5, true), (6, true), (3, false), (4, true), (7, false), (8, true), (9, false), (10, false), (11, true)] mixed rfl rfl (by kernel_rfl) ?_
    replace HM := HM.grow (fr_drew _)
    have hS := Mem.suf (M := [own kStr 9 v7079 a7080]) HM
    refine dp rfl rfl rfl rfl (ex_move rfl rfl) hS ?_
    refine dp rfl rfl rfl rfl (ex_fieldAddr (off' := 0) rfl rfl Tryz.underlying81 rfl tsz2 rfl) hS ?_
    refine drwp_take rfl (guard_none rfl) rfl rfl (fun w_ hS_ => (ex_load1 rfl rfl Tryz.underlying2 rfl ((hS_.box_at 0 rfl) 0 _ rfl))) hS ?_
    refine dp rfl rfl rfl rfl (ex_fieldAddr (off' := 1) rfl rfl Tryz.underlying81 rfl tsz2 rfl) hS ?_
    refine drwp_take rfl (guard_none rfl) rfl rfl (fun w_ hS_ => (ex_load1 rfl rfl Tryz.underlying2 rfl ((hS_.box_at 0 rfl) 1 _ rfl))) hS ?_
    refine drwp_one rfl (guard_none rfl) rfl rfl (does_callk rfl callok100 rfl (impl_dec.calls (x0 := (gt x0.fIns a7082).fTx) (HM.tab htab) h7112)) ?_
    rintro _ w7123 ⟨rfl, hn⟩
    replace HM : Mem w [] w7123 [own kStr 9 v7079 a7080, box b7106 81 [.int .i64 ((gt x0.fIns a7082).fTx), .int .i64 ((gt x0.fIns a7082).fAt)], box b6944 46 [.int .i64 x0.fKind, .int .i64 x0.fMember, p0_0, p0_1], own kStr 9 v6976 a6977] := HM.call hn
    have hS := Mem.suf (M := [own kStr 9 v7079 a7080]) HM
    refine ⟨hS, ?_⟩
    refine dp rfl rfl rfl rfl (ex_sadd rfl rfl rfl (leB_le e7113)) hS ?_
    refine drwp_one rfl (guard_none rfl) rfl rfl (does_callk rfl callok100 rfl (impl_dec.calls (x0 := (gt x0.fIns a7082).fAt) (HM.tab htab) h7115)) ?_
    rintro _ w7124 ⟨rfl, hn⟩
    replace HM : Mem w [] w7124 [own kStr 9 v7079 a7080, box b7106 81 [.int .i64 ((gt x0.fIns a7082).fTx), .int .i64 ((gt x0.fIns a7082).fAt)], box b6944 46 [.int .i64 x0.fKind, .int .i64 x0.fMember, p0_0, p0_1], own kStr 9 v6976 a6977] := HM.call hn
    have hS := Mem.suf (M := [own kStr 9 v7079 a7080]) HM
    refine ⟨hS, ?_⟩
    refine dp rfl rfl rfl rfl (ex_sadd rfl rfl rfl (leB_le e7116)) hS ?_
    refine drwp_one rfl (guard_none rfl) rfl rfl (does_lit (e := 9) (cs := [.string ((t7111 ++ (⟨#[58]⟩ : ByteArray)) ++ t7114)]) (xs := ([(t7111 ++ (⟨#[58]⟩ : ByteArray)) ++ t7114] : List ByteArray)) kStr rfl rfl (fun _ => by kernel_rfl) rfl rfl (fun _ _ h => by have h' : _ = [] := h; subst h'; exact (Elems.cons (d := kStr) (x := (t7111 ++ (⟨#[58]⟩ : ByteArray)) ++ t7114) (f := []) ⟨rfl, rfl⟩ .nil)) HM.emp) ?_
    rintro v7117 w7125 HM
    have hS := Mem.suf (M := [own kStr 9 v7117 ([(t7111 ++ (⟨#[58]⟩ : ByteArray)) ++ t7114] : List ByteArray), own kStr 9 v7079 a7080]) HM
    refine ⟨hS, ?_⟩
    replace HM := HM.front 1 rfl rfl
    refine drwp_one rfl (guard_none rfl) rfl rfl (does_appendR kStr flat_plain rfl rfl rfl Tryz.underlying22 tsz9 rfl tby9 tz9 rfl rfl (leB_le e7120) (HM.own_rd 1 rfl) HM) ?_
    rintro v7121 w7126 HM
    have hS := Mem.suf (M := [own kStr 9 v7121 (a7080 ++ ([(t7111 ++ (⟨#[58]⟩ : ByteArray)) ++ t7114] : List ByteArray)), own kStr 9 v7117 ([(t7111 ++ (⟨#[58]⟩ : ByteArray)) ++ t7114] : List ByteArray)]) HM
    refine ⟨hS, ?_⟩
    refine dp rfl rfl rfl rfl (ex_assign rfl rfl) hS ?_
    refine drwp_done ?_
    refine at_block ?_
    refine at_then ?_
    refine run_region rfl ?_
    refine ox rfl rfl rfl rfl (ex_add rfl rfl rfl) ?_
    refine ox rfl rfl rfl rfl (ex_move rfl rfl) ?_
    refine ops_nil ?_
    replace HM := (HM.front 1 rfl rfl).drop
    replace HM := (HM.front 1 rfl rfl).drop
    replace HM := HM.front 2 rfl rfl
    replace HM := HM.front 2 rfl rfl
    exact at_again k7101 (ρ1 := [(1, .pointer (some ⟨b6944, 0, none⟩)), (4, v6976), (5, v7121), (28, p0_0), (29, .int .i64 (x0.fIns.length : Int)), (30, .int .i64 (wrap64 (a7082 + 1)))]) (Nat.lt_succ_self _) ⟨_, _, _, ho7060, rfl, HM⟩ (Sub.cons rfl (Sub.cons rfl (Sub.cons rfl (Sub.cons rfl (Sub.cons rfl (Sub.cons rfl Sub.nil))))))
   ·replace ho7060 := cond_f hb7103 ho7060
    refine run_exit ?_
    refine at_then_exit ?_
    refine at_then_exit ?_
    refine at_block_exit ?_
    exact at_mid (ρ' := [(1, .pointer (some ⟨b6944, 0, none⟩)), (4, v6976), (5, v7079)]) ⟨_, _, (Option.some.inj ho7060), rfl, HM⟩ (Sub.cons rfl (Sub.cons rfl (Sub.cons rfl Sub.nil)))
  ·rintro _ w7127 ⟨v7056, a7057, rfl, rfl, HM⟩
   refine run_seq ?_
   obtain ⟨t7128, h7129, H⟩ := bind_some H
   obtain ⟨e7133, H⟩ := chk_some H
   refine run_region rfl ?_
   refine ox rfl rfl rfl rfl (ex_move rfl rfl) ?_
   refine ox rfl rfl rfl rfl (ex_move rfl rfl) ?_
   refine od rfl rfl rfl rfl (does_callk rfl callok101 rfl (strings_Join.calls (x0 := a7057) (x1 := (⟨#[43]⟩ : ByteArray)) (HM.own_rd 2 rfl) h7129)) ?_
   rintro _ w7136 ⟨rfl, hn⟩
   replace HM : Mem w [] w7136 [box b6944 46 [.int .i64 x0.fKind, .int .i64 x0.fMember, p0_0, p0_1], own kStr 9 v6976 a6977, own kStr 9 v7056 a7057] := HM.call hn
   refine od rfl rfl rfl rfl (does_lit (e := 9) (cs := [.string t7128]) (xs := ([t7128] : List ByteArray)) kStr rfl rfl (fun _ => by kernel_rfl) rfl rfl (fun _ _ h => by have h' : _ = [] := h; subst h'; exact (Elems.cons (d := kStr) (x := t7128) (f := []) ⟨rfl, rfl⟩ .nil)) HM.emp) ?_
   rintro v7130 w7137 HM
   replace HM := HM.front 2 rfl rfl
   refine od rfl rfl rfl rfl (does_appendR kStr flat_plain rfl rfl rfl Tryz.underlying22 tsz9 rfl tby9 tz9 rfl rfl (leB_le e7133) (HM.own_rd 1 rfl) HM) ?_
   rintro v7134 w7138 HM
   refine ox rfl rfl rfl rfl (ex_assign rfl rfl) ?_
   refine ops_nil (at_then ?_)
   obtain ⟨o7206, ho7207, H⟩ := bind_some H
   refine run_mid (fun ρ_ w_ => ∃ v7203 : Value, ∃ a7204 : List ByteArray, a7204 = o7206 ∧ ρ_ = [(4, v7203)] ∧ Mem w [] w_ [own kStr 9 v7203 a7204]) ?_ ?_
   ·clear H
    refine run_seq ?_
    refine run_region rfl ?_
    refine ox rfl rfl rfl rfl (ex_fieldAddr (off' := 3) rfl rfl Tryz.underlying46 rfl tsz44 rfl) ?_
    refine ox rfl rfl rfl rfl (ex_load1 rfl rfl Tryz.underlying44 rfl ((HM.box_at 2 rfl) 3 _ rfl)) ?_
    refine ox rfl rfl rfl rfl (ex_len (d := kOut) (xs := x0.fOuts) rfl rfl Tryz.underlying44 hp0_1) ?_
    refine ox rfl rfl rfl rfl (ex_move rfl rfl) ?_
    refine ops_nil (at_then ?_)
    refine run_block ?_
    replace HM := (HM.front 1 rfl rfl).drop
    replace HM := (HM.front 1 rfl rfl).drop
    replace HM := (HM.front 1 rfl rfl).drop
    refine run_loop (fun k_ ρ_ w_ => ∃ v7228 : Value, ∃ a7229 : List ByteArray, ∃ a7231 : Int, impl_txText.l1 x0 k_ a7229 a7231 = some o7206 ∧ ρ_ = [(4, v7228), (52, p0_1), (53, .int .i64 (x0.fOuts.length : Int)), (54, .int .i64 a7231)] ∧ Mem w [] w_ [own kStr 9 v7228 a7229]) k (ρ1 := [(4, v7134), (52, p0_1), (53, .int .i64 (x0.fOuts.length : Int)), (54, .int .i64 0)]) ⟨_, _, _, ho7207, rfl, HM⟩ (Sub.cons rfl (Sub.cons rfl (Sub.cons rfl (Sub.cons rfl Sub.nil)))) ?_
    clear HM ho7207
    rintro k7252 _ w7253 ⟨v7228, a7229, a7231, ho7207, rfl, HM⟩
    obtain _ | k7252 := k7252
    ·exact nomatch ((impl_txText.l1_z x0 a7229 a7231).symm.trans ho7207)
    replace ho7207 := (impl_txText.l1_s x0 k7252 a7229 a7231).symm.trans ho7207
    refine run_seq ?_
    refine run_region rfl ?_
    refine ox rfl rfl rfl rfl (ex_lss rfl rfl rfl) ?_
    refine ops_nil (at_then (run_seq ?_))
    refine run_cond (b := (decide (a7231 < (x0.fOuts.length : Int)))) rfl (fun hb7254 => ?_) (fun hb7254 => ?_)
    ·replace ho7207 := cond_t hb7254 ho7207
     refine run_skip ?_
     refine at_then ?_
     refine run_seq ?_
     refine run_block ?_
     refine run_seq ?_
     obtain ⟨e7255, ho7207⟩ := chk_some ho7207
     refine run_region rfl ?_
     obtain ⟨kv7257, hc7256, hk7258⟩ : ∃ u, CellsAt _ (sb p0_1) (so p0_1 + (a7231).toNat * 4) [(.int .i64 ((gt x0.fOuts a7231).fValue)), u, (.int .i64 ((gt x0.fOuts a7231).fRule.fNeed)), (.int .i64 ((gt x0.fOuts a7231).fRule.fAfter))] ∧ RdS kInt _ u ((gt x0.fOuts a7231).fRule.fKeys) := rd_with1 hp0_1 e7255
     refine ox rfl rfl rfl rfl (ex_indexAddr (d := kOut) rfl rfl rfl Tryz.underlying44 tsz84 hp0_1 (idx_lo e7255) (idx_hi e7255)) ?_
     refine ox rfl rfl rfl rfl (ex_loadN (cs := [(.int .i64 ((gt x0.fOuts a7231).fValue)), kv7257, (.int .i64 ((gt x0.fOuts a7231).fRule.fNeed)), (.int .i64 ((gt x0.fOuts a7231).fRule.fAfter))]) rfl rfl Tryz.underlying84 rfl tsz84 rfl ((HM.at_ hc7256).sub 0 4 rfl)) ?_
     refine od rfl rfl rfl rfl (does_alloc (cs := [.int .i64 0, .slice none 0 0, .int .i64 0, .int .i64 0]) rfl tz84 rfl HM) ?_
     rintro _ w7262 ⟨b7259, rfl, HM⟩
     refine odS rfl rfl rfl (does_store (vs := [.int .i64 ((gt x0.fOuts a7231).fValue), kv7257, .int .i64 ((gt x0.fOuts a7231).fRule.fNeed), .int .i64 ((gt x0.fOuts a7231).fRule.fAfter)]) (cs' := [.int .i64 ((gt x0.fOuts a7231).fValue), kv7257, .int .i64 ((gt x0.fOuts a7231).fRule.fNeed), .int .i64 ((gt x0.fOuts a7231).fRule.fAfter)]) rfl rfl rfl rfl tsz84 (Ones.int (Ones.rd hk7258 (Ones.int (Ones.int Ones.nil)))) rfl rfl HM) ?_
     rintro w7263 HM
     refine ops_nil (at_then ?_)
     obtain ⟨t7264, h7265, ho7207⟩ := bind_some ho7207
     obtain ⟨e7266, ho7207⟩ := chk_some ho7207
     obtain ⟨t7267, h7268, ho7207⟩ := bind_some ho7207
     obtain ⟨e7269, ho7207⟩ := chk_some ho7207
     obtain ⟨e7273, ho7207⟩ := chk_some ho7207
     replace HM := HM.front 1 rfl rfl
     refine run_drawf (fun w_ => Mem w [] w_ [box b7259 84 [.int .i64 ((gt x0.fOuts a7231).fValue), kv7257, .int .i64 ((gt x0.fOuts a7231).fRule.fNeed), .int .i64 ((gt x0.fOuts a7231).fRule.fAfter)]]) [(0, true), (1, true), (2, true), (5, true), (6, true), (3, false), (4, true), (7, false), (8, true), (9, false), (10, false), (11, true)] mixed rfl rfl (by kernel_rfl) ?_
     replace HM := HM.grow (fr_drew _)
     have hS := Mem.suf (M := [own kStr 9 v7228 a7229]) HM
     refine dp rfl rfl rfl rfl (ex_move rfl rfl) hS ?_
     refine dp rfl rfl rfl rfl (ex_fieldAddr (off' := 0) rfl rfl Tryz.underlying84 rfl tsz2 rfl) hS ?_
     refine drwp_take rfl (guard_none rfl) rfl rfl (fun w_ hS_ => (ex_load1 rfl rfl Tryz.underlying2 rfl ((hS_.box_at 0 rfl) 0 _ rfl))) hS ?_
     refine dp rfl rfl rfl rfl (ex_fieldAddr (off' := 1) rfl rfl Tryz.underlying84 rfl tsz82 rfl) hS ?_
     refine drwp_take rfl (guard_none rfl) rfl rfl (fun w_ hS_ => (ex_loadN (cs := [kv7257, (.int .i64 ((gt x0.fOuts a7231).fRule.fNeed)), (.int .i64 ((gt x0.fOuts a7231).fRule.fAfter))]) rfl rfl Tryz.underlying82 rfl tsz82 rfl ((hS_.box_at 0 rfl).sub 1 3 rfl))) hS ?_
     refine drwp_one rfl (guard_none rfl) rfl rfl (does_callk rfl callok100 rfl (impl_dec.calls (x0 := (gt x0.fOuts a7231).fValue) (HM.tab htab) h7265)) ?_
     rintro _ w7276 ⟨rfl, hn⟩
     replace HM : Mem w [] w7276 [own kStr 9 v7228 a7229, box b7259 84 [.int .i64 ((gt x0.fOuts a7231).fValue), kv7257, .int .i64 ((gt x0.fOuts a7231).fRule.fNeed), .int .i64 ((gt x0.fOuts a7231).fRule.fAfter)]] := HM.call hn
     have hS := Mem.suf (M := [own kStr 9 v7228 a7229]) HM
     refine ⟨hS, ?_⟩
     refine dp rfl rfl rfl rfl (ex_sadd rfl rfl rfl (leB_le e7266)) hS ?_
     refine drwp_one rfl (guard_none rfl) rfl rfl (does_callk rfl callok102 rfl (impl_ruleText.calls (x0 := (gt x0.fOuts a7231).fRule) (x1 := (⟨#[95]⟩ : ByteArray)) (HM.tab htab) (HM.rd hk7258) h7268)) ?_
     rintro _ w7277 ⟨rfl, hn⟩
     replace HM : Mem w [] w7277 [own kStr 9 v7228 a7229, box b7259 84 [.int .i64 ((gt x0.fOuts a7231).fValue), kv7257, .int .i64 ((gt x0.fOuts a7231).fRule.fNeed), .int .i64 ((gt x0.fOuts a7231).fRule.fAfter)]] := HM.call hn
     have hS := Mem.suf (M := [own kStr 9 v7228 a7229]) HM
     refine ⟨hS, ?_⟩
     refine dp rfl rfl rfl rfl (ex_sadd rfl rfl rfl (leB_le e7269)) hS ?_
     refine drwp_one rfl (guard_none rfl) rfl rfl (does_lit (e := 9) (cs := [.string ((t7264 ++ (⟨#[61]⟩ : ByteArray)) ++ t7267)]) (xs := ([(t7264 ++ (⟨#[61]⟩ : ByteArray)) ++ t7267] : List ByteArray)) kStr rfl rfl (fun _ => by kernel_rfl) rfl rfl (fun _ _ h => by have h' : _ = [] := h; subst h'; exact (Elems.cons (d := kStr) (x := (t7264 ++ (⟨#[61]⟩ : ByteArray)) ++ t7267) (f := []) ⟨rfl, rfl⟩ .nil)) HM.emp) ?_
     rintro v7270 w7278 HM
     have hS := Mem.suf (M := [own kStr 9 v7270 ([(t7264 ++ (⟨#[61]⟩ : ByteArray)) ++ t7267] : List ByteArray), own kStr 9 v7228 a7229]) HM
     refine ⟨hS, ?_⟩
     replace HM := HM.front 1 rfl rfl
     refine drwp_one rfl (guard_none rfl) rfl rfl (does_appendR kStr flat_plain rfl rfl rfl Tryz.underlying22 tsz9 rfl tby9 tz9 rfl rfl (leB_le e7273) (HM.own_rd 1 rfl) HM) ?_
     rintro v7274 w7279 HM
     have hS := Mem.suf (M := [own kStr 9 v7274 (a7229 ++ ([(t7264 ++ (⟨#[61]⟩ : ByteArray)) ++ t7267] : List ByteArray)), own kStr 9 v7270 ([(t7264 ++ (⟨#[61]⟩ : ByteArray)) ++ t7267] : List ByteArray)]) HM
     refine ⟨hS, ?_⟩
     refine dp rfl rfl rfl rfl (ex_assign rfl rfl) hS ?_
     refine drwp_done ?_
     refine at_block ?_
     refine at_then ?_
     refine run_region rfl ?_
     refine ox rfl rfl rfl rfl (ex_add rfl rfl rfl) ?_
     refine ox rfl rfl rfl rfl (ex_move rfl rfl) ?_
     refine ops_nil ?_
     replace HM := (HM.front 1 rfl rfl).drop
     replace HM := (HM.front 1 rfl rfl).drop
     exact at_again k7252 (ρ1 := [(4, v7274), (52, p0_1), (53, .int .i64 (x0.fOuts.length : Int)), (54, .int .i64 (wrap64 (a7231 + 1)))]) (Nat.lt_succ_self _) ⟨_, _, _, ho7207, rfl, HM⟩ (Sub.cons rfl (Sub.cons rfl (Sub.cons rfl (Sub.cons rfl Sub.nil))))
    ·replace ho7207 := cond_f hb7254 ho7207
     refine run_exit ?_
     refine at_then_exit ?_
     refine at_then_exit ?_
     refine at_block_exit ?_
     exact at_mid (ρ' := [(4, v7228)]) ⟨_, _, (Option.some.inj ho7207), rfl, HM⟩ (Sub.cons rfl Sub.nil)
   ·rintro _ w7280 ⟨v7203, a7204, rfl, rfl, HM⟩
    refine run_seq ?_
    obtain ⟨t7281, h7282, H⟩ := bind_some H
    refine run_region rfl ?_
    refine ox rfl rfl rfl rfl (ex_move rfl rfl) ?_
    refine od rfl rfl rfl rfl (does_callk rfl callok101 rfl (strings_Join.calls (x0 := a7204) (x1 := (⟨#[32]⟩ : ByteArray)) (HM.own_rd 0 rfl) h7282)) ?_
    rintro _ w7283 ⟨rfl, hn⟩
    replace HM : Mem w [] w7283 [own kStr 9 v7203 a7204] := HM.call hn
    refine ox rfl rfl rfl rfl (ex_assign rfl rfl) ?_
    refine ops_nil (at_then (run_seq ?_))
    refine run_seq ?_
    refine run_region rfl ?_
    refine ox rfl rfl rfl rfl (ex_move rfl rfl) ?_
    refine ox rfl rfl rfl rfl (ex_strlen rfl rfl Tryz.underlying9) ?_
    refine ox rfl rfl rfl rfl (ex_gtr rfl rfl rfl) ?_
    refine ops_nil (at_then ?_)
    refine run_cond (b := (decide (300 < (t7281.size : Int)))) rfl (fun hb7284 => ?_) (fun hb7284 => ?_)
    ·replace H := cond_t hb7284 H
     refine run_seq ?_
     refine run_region rfl ?_
     refine ox rfl rfl rfl rfl (ex_assign rfl rfl) ?_
     refine ox rfl rfl rfl rfl (ex_assign rfl rfl) ?_
     refine ops_nil (at_then ?_)
     refine run_ret ?_
     refine at_then_ret ?_
     replace HM := (HM.front 0 rfl rfl).drop
     have hR := Option.some.inj H
     subst hR
     exact at_ret2 rfl rfl rfl ⟨_, rfl, rfl, HM⟩
    ·replace H := cond_f hb7284 H
     refine run_skip ?_
     refine at_then ?_
     refine run_seq ?_
     refine run_region rfl ?_
     refine ox rfl rfl rfl rfl (ex_move rfl rfl) ?_
     refine ox rfl rfl rfl rfl (ex_assign rfl rfl) ?_
     refine ox rfl rfl rfl rfl (ex_assign rfl rfl) ?_
     refine ops_nil (at_then ?_)
     refine run_ret ?_
     replace HM := (HM.front 0 rfl rfl).drop
     have hR := Option.some.inj H
     subst hR
     exact at_ret2 rfl rfl rfl ⟨_, rfl, rfl, HM⟩

def impl_Ledger_idOf.f (k : Nat) (x0 : Ledger) (x1 : ByteArray) : Option Int := ((slices_Index_string.f k x0.fTexts x1).bind fun t7298 => some (wrap64 (t7298 + 1)))
theorem impl_Ledger_idOf.calls {k : Nat} {x0 : Ledger} {x1 : ByteArray} {p0_0 : Value} {p0_1 : Value} {w : World} (hp0_0 : RdS kStr w p0_0 x0.fTexts) (hp0_1 : RdS kSign w p0_1 x0.fSigns) {r : Int} (H : impl_Ledger_idOf.f k x0 x1 = some r) :
  Calls Tryz.prog 74 ([.agg #[p0_0, p0_1], .string x1] : List Value).toArray w (fun e w_ => ∃ v, e = .returned v ∧ v = (.int .i64 r) ∧ Mem w [] w_ []) := by
 have HM := Mem.start w
 refine calls_run (N := 10) Tryz.func74 rfl rfl rfl rfl ?_
 unfold impl_Ledger_idOf.f at H
 refine run_seq ?_
 refine run_region rfl ?_
 refine od rfl rfl rfl rfl (does_box (cs := [p0_0, p0_1]) rfl rfl rfl HM) ?_
 rintro _ w7297 ⟨b7294, rfl, HM⟩
 refine ox rfl rfl rfl rfl (ex_assign rfl rfl) ?_
 refine ops_nil (at_then (run_seq ?_))
 obtain ⟨t7298, h7299, H⟩ := bind_some H
 refine run_region rfl ?_
 refine ox rfl rfl rfl rfl (ex_fieldAddr (off' := 0) rfl rfl Tryz.underlying39 rfl tsz22 rfl) ?_
 refine ox rfl rfl rfl rfl (ex_load1 rfl rfl Tryz.underlying22 rfl ((HM.box_at 0 rfl) 0 _ rfl)) ?_
 refine ox rfl rfl rfl rfl (ex_move rfl rfl) ?_
 refine od rfl rfl rfl rfl (does_callk rfl callok91 rfl (slices_Index_string.calls (x0 := x0.fTexts) (x1 := x1) (HM.rd hp0_0) h7299)) ?_
 rintro _ w7300 ⟨rfl, hn⟩
 replace HM : Mem w [] w7300 [box b7294 39 [p0_0, p0_1]] := HM.call hn
 refine ox rfl rfl rfl rfl (ex_add rfl rfl rfl) ?_
 refine ox rfl rfl rfl rfl (ex_assign rfl rfl) ?_
 refine ops_nil (at_then ?_)
 refine run_ret ?_
 replace HM := (HM.front 0 rfl rfl).drop
 have hR := Option.some.inj H
 subst hR
 exact at_ret1 rfl rfl ⟨_, rfl, rfl, HM⟩

def impl_findCoin_1.f (k : Nat) (x0 : Coin) (x1 : Ref) : Option Int := ((impl_compareRefs.f k x0.fRef x1).bind fun t7345 => some t7345)
theorem impl_findCoin_1.calls {k : Nat} {x0 : Coin} {x1 : Ref} {p0_0 : Value} {w : World} (hp0_0 : RdS kInt w p0_0 x0.fOut.fRule.fKeys) {r : Int} (H : impl_findCoin_1.f k x0 x1 = some r) :
  Calls Tryz.prog 119 ([.agg #[(.int .i64 x0.fRef.fTx), (.int .i64 x0.fRef.fAt), (.int .i64 x0.fOut.fValue), p0_0, (.int .i64 x0.fOut.fRule.fNeed), (.int .i64 x0.fOut.fRule.fAfter), (.int .i64 x0.fHeight), (.bool x0.fMined)], .agg #[(.int .i64 x1.fTx), (.int .i64 x1.fAt)]] : List Value).toArray w (fun e w_ => ∃ v, e = .returned v ∧ v = (.int .i64 r) ∧ Mem w [] w_ []) := by
 have HM := Mem.start w
 refine calls_run (N := 9) Tryz.func119 rfl rfl rfl rfl ?_
 unfold impl_findCoin_1.f at H
 refine run_seq ?_
 refine run_region rfl ?_
 refine od rfl rfl rfl rfl (does_box (cs := [.int .i64 x0.fRef.fTx, .int .i64 x0.fRef.fAt, .int .i64 x0.fOut.fValue, p0_0, .int .i64 x0.fOut.fRule.fNeed, .int .i64 x0.fOut.fRule.fAfter, .int .i64 x0.fHeight, .bool x0.fMined]) rfl rfl rfl HM) ?_
 rintro _ w7343 ⟨b7337, rfl, HM⟩
 refine od rfl rfl rfl rfl (does_box (cs := [.int .i64 x1.fTx, .int .i64 x1.fAt]) rfl rfl rfl HM) ?_
 rintro _ w7344 ⟨b7340, rfl, HM⟩
 refine ox rfl rfl rfl rfl (ex_assign rfl rfl) ?_
 refine ops_nil (at_then (run_seq ?_))
 obtain ⟨t7345, h7346, H⟩ := bind_some H
 refine run_region rfl ?_
 refine ox rfl rfl rfl rfl (ex_fieldAddr (off' := 0) rfl rfl Tryz.underlying86 rfl tsz81 rfl) ?_
 refine ox rfl rfl rfl rfl (ex_loadN (cs := [(.int .i64 x0.fRef.fTx), (.int .i64 x0.fRef.fAt)]) rfl rfl Tryz.underlying81 rfl tsz81 rfl ((HM.box_at 1 rfl).sub 0 2 rfl)) ?_
 refine ox rfl rfl rfl rfl (ex_loadN (cs := [(.int .i64 x1.fTx), (.int .i64 x1.fAt)]) rfl rfl Tryz.underlying81 rfl tsz81 rfl ((HM.box_at 0 rfl).sub 0 2 rfl)) ?_
 refine od rfl rfl rfl rfl (does_callk rfl callok69 rfl (impl_compareRefs.calls (x0 := x0.fRef) (x1 := x1) h7346)) ?_
 rintro _ w7347 ⟨rfl, hn⟩
 replace HM : Mem w [] w7347 [box b7340 81 [.int .i64 x1.fTx, .int .i64 x1.fAt], box b7337 86 [.int .i64 x0.fRef.fTx, .int .i64 x0.fRef.fAt, .int .i64 x0.fOut.fValue, p0_0, .int .i64 x0.fOut.fRule.fNeed, .int .i64 x0.fOut.fRule.fAfter, .int .i64 x0.fHeight, .bool x0.fMined]] := HM.call hn
 refine ox rfl rfl rfl rfl (ex_assign rfl rfl) ?_
 refine ops_nil (at_then ?_)
 refine run_ret ?_
 replace HM := (HM.front 0 rfl rfl).drop
 replace HM := (HM.front 0 rfl rfl).drop
 have hR := Option.some.inj H
 subst hR
 exact at_ret1 rfl rfl ⟨_, rfl, rfl, HM⟩

def slices_BinarySearchFunc_impl_Coin.l0 (x0 : List Coin) (x1 : Ref) : Nat → Int → Int → Option Int
 | 0, _, _ => none
 | k + 1, a7425, a7426 => (bif (decide (a7425 < a7426)) then (chk (decide (0 ≤ (1 : Int)) && decide ((1 : Int) ≤ IntKind.u64.bits)) (chk (idxOk (wrap64 ((IntKind.u64.wrap (wrap64 (a7425 + a7426))) / 2 ^ ((1 : Int)).toNat)) x0.length) ((impl_findCoin_1.f k (gt x0 (wrap64 ((IntKind.u64.wrap (wrap64 (a7425 + a7426))) / 2 ^ ((1 : Int)).toNat))) x1).bind fun t7444 => (bif (decide (t7444 < 0)) then slices_BinarySearchFunc_impl_Coin.l0 x0 x1 k (wrap64 ((wrap64 ((IntKind.u64.wrap (wrap64 (a7425 + a7426))) / 2 ^ ((1 : Int)).toNat)) + 1)) a7426 else slices_BinarySearchFunc_impl_Coin.l0 x0 x1 k a7425 (wrap64 ((IntKind.u64.wrap (wrap64 (a7425 + a7426))) / 2 ^ ((1 : Int)).toNat)))))) else some a7425)
theorem slices_BinarySearchFunc_impl_Coin.l0_z (x0 : List Coin) (x1 : Ref) (a7425 : Int) (a7426 : Int) : slices_BinarySearchFunc_impl_Coin.l0 x0 x1 0 a7425 a7426 = none := rfl
theorem slices_BinarySearchFunc_impl_Coin.l0_s (x0 : List Coin) (x1 : Ref) (k : Nat) (a7425 : Int) (a7426 : Int) : slices_BinarySearchFunc_impl_Coin.l0 x0 x1 (k + 1) a7425 a7426 = (bif (decide (a7425 < a7426)) then (chk (decide (0 ≤ (1 : Int)) && decide ((1 : Int) ≤ IntKind.u64.bits)) (chk (idxOk (wrap64 ((IntKind.u64.wrap (wrap64 (a7425 + a7426))) / 2 ^ ((1 : Int)).toNat)) x0.length) ((impl_findCoin_1.f k (gt x0 (wrap64 ((IntKind.u64.wrap (wrap64 (a7425 + a7426))) / 2 ^ ((1 : Int)).toNat))) x1).bind fun t7444 => (bif (decide (t7444 < 0)) then slices_BinarySearchFunc_impl_Coin.l0 x0 x1 k (wrap64 ((wrap64 ((IntKind.u64.wrap (wrap64 (a7425 + a7426))) / 2 ^ ((1 : Int)).toNat)) + 1)) a7426 else slices_BinarySearchFunc_impl_Coin.l0 x0 x1 k a7425 (wrap64 ((IntKind.u64.wrap (wrap64 (a7425 + a7426))) / 2 ^ ((1 : Int)).toNat)))))) else some a7425) := rfl
def slices_BinarySearchFunc_impl_Coin.f (k : Nat) (x0 : List Coin) (x1 : Ref) : Option (Int × Bool) := ((slices_BinarySearchFunc_impl_Coin.l0 x0 x1 k 0 (x0.length : Int)).bind (fun a7413 => (chk (!(decide (a7413 < (x0.length : Int))) || (idxOk a7413 x0.length)) ((bif (decide (a7413 < (x0.length : Int))) then impl_findCoin_1.f k (gt x0 a7413) x1 else some default).bind fun t7453 => some (a7413, ((decide (a7413 < (x0.length : Int))) && (t7453 == 0)))))))
theorem slices_BinarySearchFunc_impl_Coin.calls {k : Nat} {x0 : List Coin} {x1 : Ref} {p0 : Value} {w : World} (hp0 : RdS kCoin w p0 x0) {r : Int × Bool} (H : slices_BinarySearchFunc_impl_Coin.f k x0 x1 = some r) :
  Calls Tryz.prog 118 ([p0, .agg #[(.int .i64 x1.fTx), (.int .i64 x1.fAt)], .func (.func 119) #[] #[]] : List Value).toArray w (fun e w_ => ∃ v, e = .returned v ∧ v = (.tuple #[.int .i64 r.1, .bool r.2]) ∧ Mem w [] w_ []) := by
 have HM := Mem.start w
 refine calls_run (N := 49) Tryz.func118 rfl rfl rfl rfl ?_
 unfold slices_BinarySearchFunc_impl_Coin.f at H
 refine run_seq ?_
 refine run_region rfl ?_
 refine od rfl rfl rfl rfl (does_box (cs := [.int .i64 x1.fTx, .int .i64 x1.fAt]) rfl rfl rfl HM) ?_
 rintro _ w7383 ⟨b7380, rfl, HM⟩
 refine ox rfl rfl rfl rfl (ex_assign rfl rfl) ?_
 refine ox rfl rfl rfl rfl (ex_assign rfl rfl) ?_
 refine ops_nil (at_then (run_seq ?_))
 refine run_region rfl ?_
 refine ox rfl rfl rfl rfl (ex_move rfl rfl) ?_
 refine ox rfl rfl rfl rfl (ex_len (d := kCoin) (xs := x0) rfl rfl Tryz.underlying41 hp0) ?_
 refine ox rfl rfl rfl rfl (ex_assign rfl rfl) ?_
 refine ops_nil (at_then (run_seq ?_))
 refine run_region rfl ?_
 refine ox rfl rfl rfl rfl (ex_move rfl rfl) ?_
 refine ox rfl rfl rfl rfl (ex_assign rfl rfl) ?_
 refine ox rfl rfl rfl rfl (ex_assign rfl rfl) ?_
 refine ops_nil (at_then ?_)
 obtain ⟨o7414, ho7415, H⟩ := bind_some H
 refine run_mid (fun ρ_ w_ => ∃ a7413 : Int, a7413 = o7414 ∧ ρ_ = [(0, p0), (2, .func (.func 119) #[] #[]), (4, .pointer (some ⟨b7380, 0, none⟩)), (8, .int .i64 (x0.length : Int)), (9, .int .i64 a7413)] ∧ Mem w [] w_ [box b7380 81 [.int .i64 x1.fTx, .int .i64 x1.fAt]]) ?_ ?_
 ·clear H
  refine run_block ?_
  refine run_loop (fun k_ ρ_ w_ => ∃ a7425 : Int, ∃ a7426 : Int, slices_BinarySearchFunc_impl_Coin.l0 x0 x1 k_ a7425 a7426 = some o7414 ∧ ρ_ = [(0, p0), (2, .func (.func 119) #[] #[]), (4, .pointer (some ⟨b7380, 0, none⟩)), (8, .int .i64 (x0.length : Int)), (9, .int .i64 a7425), (10, .int .i64 a7426)] ∧ Mem w [] w_ [box b7380 81 [.int .i64 x1.fTx, .int .i64 x1.fAt]]) k (ρ1 := [(0, p0), (2, .func (.func 119) #[] #[]), (4, .pointer (some ⟨b7380, 0, none⟩)), (8, .int .i64 (x0.length : Int)), (9, .int .i64 0), (10, .int .i64 (x0.length : Int))]) ⟨_, _, ho7415, rfl, HM⟩ (Sub.cons rfl (Sub.cons rfl (Sub.cons rfl (Sub.cons rfl (Sub.cons rfl (Sub.cons rfl Sub.nil)))))) ?_
  clear HM ho7415
  rintro k7436 _ w7437 ⟨a7425, a7426, ho7415, rfl, HM⟩
  obtain _ | k7436 := k7436
  ·exact nomatch ((slices_BinarySearchFunc_impl_Coin.l0_z x0 x1 a7425 a7426).symm.trans ho7415)
  replace ho7415 := (slices_BinarySearchFunc_impl_Coin.l0_s x0 x1 k7436 a7425 a7426).symm.trans ho7415
  refine run_seq ?_
  refine run_seq ?_
  refine run_region rfl ?_
  refine ox rfl rfl rfl rfl (ex_move rfl rfl) ?_
  refine ox rfl rfl rfl rfl (ex_move rfl rfl) ?_
  refine ox rfl rfl rfl rfl (ex_lss rfl rfl rfl) ?_
  refine ops_nil (at_then ?_)
  refine run_cond (b := (decide (a7425 < a7426))) rfl (fun hb7438 => ?_) (fun hb7438 => ?_)
  ·replace ho7415 := cond_t hb7438 ho7415
   refine run_skip ?_
   refine at_then ?_
   refine run_block ?_
   refine run_seq ?_
   obtain ⟨e7439, ho7415⟩ := chk_some ho7415
   refine run_region rfl ?_
   refine ox rfl rfl rfl rfl (ex_move rfl rfl) ?_
   refine ox rfl rfl rfl rfl (ex_move rfl rfl) ?_
   refine ox rfl rfl rfl rfl (ex_add rfl rfl rfl) ?_
   refine ox rfl rfl rfl rfl (ex_conv rfl rfl (by rw [Tryz.underlying3]; rfl) Tryz.underlying180) ?_
   refine ox rfl rfl rfl rfl (ex_shr rfl rfl rfl e7439) ?_
   refine ox rfl rfl rfl rfl (ex_conv64 rfl rfl (by rw [Tryz.underlying180]; rfl) Tryz.underlying3) ?_
   refine ox rfl rfl rfl rfl (ex_assign rfl rfl) ?_
   refine ops_nil (at_then (run_seq ?_))
   obtain ⟨e7440, ho7415⟩ := chk_some ho7415
   obtain ⟨t7444, h7445, ho7415⟩ := bind_some ho7415
   refine run_drawf (fun w_ => Mem w [] w_ [box b7380 81 [.int .i64 x1.fTx, .int .i64 x1.fAt]]) [(0, true), (1, true), (2, true), (3, true), (4, true), (5, true), (6, false), (7, true)] mixed rfl rfl (by kernel_rfl) ?_
   replace HM := HM.grow (fr_drew _)
   have hS := Mem.suf (M := []) HM
   refine dp rfl rfl rfl rfl (ex_move rfl rfl) hS ?_
   refine dp rfl rfl rfl rfl (ex_move rfl rfl) hS ?_
   refine dp rfl rfl rfl rfl (ex_move rfl rfl) hS ?_
   obtain ⟨kv7442, hc7441, hk7443⟩ : ∃ u, CellsAt _ (sb p0) (so p0 + (wrap64 ((IntKind.u64.wrap (wrap64 (a7425 + a7426))) / 2 ^ ((1 : Int)).toNat)).toNat * 8) [(.int .i64 ((gt x0 (wrap64 ((IntKind.u64.wrap (wrap64 (a7425 + a7426))) / 2 ^ ((1 : Int)).toNat))).fRef.fTx)), (.int .i64 ((gt x0 (wrap64 ((IntKind.u64.wrap (wrap64 (a7425 + a7426))) / 2 ^ ((1 : Int)).toNat))).fRef.fAt)), (.int .i64 ((gt x0 (wrap64 ((IntKind.u64.wrap (wrap64 (a7425 + a7426))) / 2 ^ ((1 : Int)).toNat))).fOut.fValue)), u, (.int .i64 ((gt x0 (wrap64 ((IntKind.u64.wrap (wrap64 (a7425 + a7426))) / 2 ^ ((1 : Int)).toNat))).fOut.fRule.fNeed)), (.int .i64 ((gt x0 (wrap64 ((IntKind.u64.wrap (wrap64 (a7425 + a7426))) / 2 ^ ((1 : Int)).toNat))).fOut.fRule.fAfter)), (.int .i64 ((gt x0 (wrap64 ((IntKind.u64.wrap (wrap64 (a7425 + a7426))) / 2 ^ ((1 : Int)).toNat))).fHeight)), (.bool ((gt x0 (wrap64 ((IntKind.u64.wrap (wrap64 (a7425 + a7426))) / 2 ^ ((1 : Int)).toNat))).fMined))] ∧ RdS kInt _ u ((gt x0 (wrap64 ((IntKind.u64.wrap (wrap64 (a7425 + a7426))) / 2 ^ ((1 : Int)).toNat))).fOut.fRule.fKeys) := rd_with1 hp0 e7440
   refine dp rfl rfl rfl rfl (ex_indexAddr (d := kCoin) rfl rfl rfl Tryz.underlying41 tsz86 hp0 (idx_lo e7440) (idx_hi e7440)) hS ?_
   refine drwp_take rfl (guard_none rfl) rfl rfl (fun w_ hS_ => (ex_loadN (cs := [(.int .i64 ((gt x0 (wrap64 ((IntKind.u64.wrap (wrap64 (a7425 + a7426))) / 2 ^ ((1 : Int)).toNat))).fRef.fTx)), (.int .i64 ((gt x0 (wrap64 ((IntKind.u64.wrap (wrap64 (a7425 + a7426))) / 2 ^ ((1 : Int)).toNat))).fRef.fAt)), (.int .i64 ((gt x0 (wrap64 ((IntKind.u64.wrap (wrap64 (a7425 + a7426))) / 2 ^ ((1 : Int)).toNat))).fOut.fValue)), kv7442, (.int .i64 ((gt x0 (wrap64 ((IntKind.u64.wrap (wrap64 (a7425 + a7426))) / 2 ^ ((1 : Int)).toNat))).fOut.fRule.fNeed)), (.int .i64 ((gt x0 (wrap64 ((IntKind.u64.wrap (wrap64 (a7425 + a7426))) / 2 ^ ((1 : Int)).toNat))).fOut.fRule.fAfter)), (.int .i64 ((gt x0 (wrap64 ((IntKind.u64.wrap (wrap64 (a7425 + a7426))) / 2 ^ ((1 : Int)).toNat))).fHeight)), (.bool ((gt x0 (wrap64 ((IntKind.u64.wrap (wrap64 (a7425 + a7426))) / 2 ^ ((1 : Int)).toNat))).fMined))]) rfl rfl Tryz.underlying86 rfl tsz86 rfl ((hS_.at_ hc7441).sub 0 8 rfl))) hS ?_
   refine drwp_take rfl (guard_none rfl) rfl rfl (fun w_ hS_ => (ex_loadN (cs := [(.int .i64 x1.fTx), (.int .i64 x1.fAt)]) rfl rfl Tryz.underlying81 rfl tsz81 rfl ((hS_.box_at 0 rfl).sub 0 2 rfl))) hS ?_
   refine drwp_one rfl (guard_none rfl) rfl rfl (does_callvk rfl callok119 rfl rfl rfl (impl_findCoin_1.calls (x0 := (gt x0 (wrap64 ((IntKind.u64.wrap (wrap64 (a7425 + a7426))) / 2 ^ ((1 : Int)).toNat)))) (x1 := x1) (HM.rd hk7443) h7445)) ?_
   rintro _ w7446 ⟨rfl, hn⟩
   replace HM : Mem w [] w7446 [box b7380 81 [.int .i64 x1.fTx, .int .i64 x1.fAt]] := HM.call hn
   have hS := Mem.suf (M := []) HM
   refine ⟨hS, ?_⟩
   refine dp rfl rfl rfl rfl (ex_lss rfl rfl rfl) hS ?_
   refine drwp_done ?_
   refine at_then ?_
   refine run_cond (b := (decide (t7444 < 0))) rfl (fun hb7447 => ?_) (fun hb7447 => ?_)
   ·replace ho7415 := cond_t hb7447 ho7415
    refine run_region rfl ?_
    refine ox rfl rfl rfl rfl (ex_move rfl rfl) ?_
    refine ox rfl rfl rfl rfl (ex_add rfl rfl rfl) ?_
    refine ox rfl rfl rfl rfl (ex_assign rfl rfl) ?_
    refine ops_nil ?_
    refine at_block ?_
    exact at_again k7436 (ρ1 := [(0, p0), (2, .func (.func 119) #[] #[]), (4, .pointer (some ⟨b7380, 0, none⟩)), (8, .int .i64 (x0.length : Int)), (9, .int .i64 (wrap64 ((wrap64 ((IntKind.u64.wrap (wrap64 (a7425 + a7426))) / 2 ^ ((1 : Int)).toNat)) + 1))), (10, .int .i64 a7426)]) (Nat.lt_succ_self _) ⟨_, _, ho7415, rfl, HM⟩ (Sub.cons rfl (Sub.cons rfl (Sub.cons rfl (Sub.cons rfl (Sub.cons rfl (Sub.cons rfl Sub.nil))))))
   ·replace ho7415 := cond_f hb7447 ho7415
    refine run_region rfl ?_
    refine ox rfl rfl rfl rfl (ex_move rfl rfl) ?_
    refine ox rfl rfl rfl rfl (ex_assign rfl rfl) ?_
    refine ops_nil ?_
    refine at_block ?_
    exact at_again k7436 (ρ1 := [(0, p0), (2, .func (.func 119) #[] #[]), (4, .pointer (some ⟨b7380, 0, none⟩)), (8, .int .i64 (x0.length : Int)), (9, .int .i64 a7425), (10, .int .i64 (wrap64 ((IntKind.u64.wrap (wrap64 (a7425 + a7426))) / 2 ^ ((1 : Int)).toNat)))]) (Nat.lt_succ_self _) ⟨_, _, ho7415, rfl, HM⟩ (Sub.cons rfl (Sub.cons rfl (Sub.cons rfl (Sub.cons rfl (Sub.cons rfl (Sub.cons rfl Sub.nil))))))
  ·replace ho7415 := cond_f hb7438 ho7415
   refine run_exit ?_
   refine at_then_exit ?_
   refine at_then_exit ?_
   refine at_block_exit ?_
   exact at_mid (ρ' := [(0, p0), (2, .func (.func 119) #[] #[]), (4, .pointer (some ⟨b7380, 0, none⟩)), (8, .int .i64 (x0.length : Int)), (9, .int .i64 a7425)]) ⟨_, (Option.some.inj ho7415), rfl, HM⟩ (Sub.cons rfl (Sub.cons rfl (Sub.cons rfl (Sub.cons rfl (Sub.cons rfl Sub.nil)))))
 ·rintro _ w7448 ⟨a7413, rfl, rfl, HM⟩
  refine run_seq ?_
  obtain ⟨e7449, H⟩ := chk_some H
  obtain ⟨t7453, h7454, H⟩ := bind_some H
  refine run_meet (fun ρ_ w_ => ρ_ = [(6, .int .i64 a7413), (7, .bool ((decide (a7413 < (x0.length : Int))) && (t7453 == 0)))] ∧ Mem w [] w_ []) ?_ ?_
  ·skip
   refine run_drawf (fun w_ => Mem w [] w_ [box b7380 81 [.int .i64 x1.fTx, .int .i64 x1.fAt]]) [(0, true), (1, true), (2, true), (3, true), (4, true), (5, true), (6, true), (7, true), (8, true), (9, true), (10, true), (11, false), (12, true), (13, true), (14, true), (15, true)] mixed rfl rfl (by kernel_rfl) ?_
   replace HM := HM.grow (fr_drew _)
   have hS := Mem.suf (M := []) HM
   refine dp rfl rfl rfl rfl (ex_move rfl rfl) hS ?_
   refine dp rfl rfl rfl rfl (ex_move rfl rfl) hS ?_
   refine dp rfl rfl rfl rfl (ex_move rfl rfl) hS ?_
   refine dp rfl rfl rfl rfl (ex_lss rfl rfl rfl) hS ?_
   refine dp rfl rfl rfl rfl (ex_move rfl rfl) hS ?_
   refine bool_cases (decide (a7413 < (x0.length : Int))) (fun hg7455 => ?_) (fun hg7455 => ?_)
   ·skip
    refine drwp_take rfl (guard_on rfl rfl rfl hg7455) rfl rfl (fun w_ hS_ => (ex_move rfl rfl)) hS ?_
    refine drwp_take rfl (guard_on rfl rfl rfl hg7455) rfl rfl (fun w_ hS_ => (ex_move rfl rfl)) hS ?_
    refine drwp_take rfl (guard_on rfl rfl rfl hg7455) rfl rfl (fun w_ hS_ => (ex_move rfl rfl)) hS ?_
    obtain ⟨kv7451, hc7450, hk7452⟩ : ∃ u, CellsAt _ (sb p0) (so p0 + (a7413).toNat * 8) [(.int .i64 ((gt x0 a7413).fRef.fTx)), (.int .i64 ((gt x0 a7413).fRef.fAt)), (.int .i64 ((gt x0 a7413).fOut.fValue)), u, (.int .i64 ((gt x0 a7413).fOut.fRule.fNeed)), (.int .i64 ((gt x0 a7413).fOut.fRule.fAfter)), (.int .i64 ((gt x0 a7413).fHeight)), (.bool ((gt x0 a7413).fMined))] ∧ RdS kInt _ u ((gt x0 a7413).fOut.fRule.fKeys) := rd_with1 hp0 (or_t e7449 hg7455)
    refine drwp_take rfl (guard_on rfl rfl rfl hg7455) rfl rfl (fun w_ hS_ => (ex_indexAddr (d := kCoin) rfl rfl rfl Tryz.underlying41 tsz86 hp0 (idx_lo (or_t e7449 hg7455)) (idx_hi (or_t e7449 hg7455)))) hS ?_
    refine drwp_take rfl (guard_on rfl rfl rfl hg7455) rfl rfl (fun w_ hS_ => (ex_loadN (cs := [(.int .i64 ((gt x0 a7413).fRef.fTx)), (.int .i64 ((gt x0 a7413).fRef.fAt)), (.int .i64 ((gt x0 a7413).fOut.fValue)), kv7451, (.int .i64 ((gt x0 a7413).fOut.fRule.fNeed)), (.int .i64 ((gt x0 a7413).fOut.fRule.fAfter)), (.int .i64 ((gt x0 a7413).fHeight)), (.bool ((gt x0 a7413).fMined))]) rfl rfl Tryz.underlying86 rfl tsz86 rfl ((hS_.at_ hc7450).sub 0 8 rfl))) hS ?_
    refine drwp_take rfl (guard_on rfl rfl rfl hg7455) rfl rfl (fun w_ hS_ => (ex_loadN (cs := [(.int .i64 x1.fTx), (.int .i64 x1.fAt)]) rfl rfl Tryz.underlying81 rfl tsz81 rfl ((hS_.box_at 0 rfl).sub 0 2 rfl))) hS ?_
    refine drwp_one rfl (guard_on rfl rfl rfl hg7455) rfl rfl (does_callvk rfl callok119 rfl rfl rfl (impl_findCoin_1.calls (x0 := (gt x0 a7413)) (x1 := x1) (HM.rd hk7452) (cond_t hg7455 h7454))) ?_
    rintro _ w7456 ⟨rfl, hn⟩
    replace HM : Mem w [] w7456 [box b7380 81 [.int .i64 x1.fTx, .int .i64 x1.fAt]] := HM.call hn
    have hS := Mem.suf (M := []) HM
    refine ⟨hS, ?_⟩
    refine drwp_take rfl (guard_on rfl rfl rfl hg7455) rfl rfl (fun w_ hS_ => (ex_eql rfl rfl rfl)) hS ?_
    refine drwp_take (v := .bool ((decide (a7413 < (x0.length : Int))) && (t7453 == 0))) rfl (guard_none rfl) rfl rfl (fun w_ hS_ => (ex_pand_t rfl rfl hg7455 rfl)) hS ?_
    refine dp rfl rfl rfl rfl (ex_assign rfl rfl) hS ?_
    refine dp rfl rfl rfl rfl (ex_assign rfl rfl) hS ?_
    refine drwp_done ?_
    replace HM := (HM.front 0 rfl rfl).drop
    exact at_meet [(6, .int .i64 a7413), (7, .bool ((decide (a7413 < (x0.length : Int))) && (t7453 == 0)))] ⟨rfl, HM⟩ (Sub.cons rfl (Sub.cons rfl Sub.nil))
   ·skip
    refine drwp_off rfl (guard_off rfl rfl rfl hg7455) rfl rfl hS ?_
    refine drwp_off rfl (guard_off rfl rfl rfl hg7455) rfl rfl hS ?_
    refine drwp_off rfl (guard_off rfl rfl rfl hg7455) rfl rfl hS ?_
    refine drwp_off rfl (guard_off rfl rfl rfl hg7455) rfl rfl hS ?_
    refine drwp_off rfl (guard_off rfl rfl rfl hg7455) rfl rfl hS ?_
    refine drwp_off rfl (guard_off rfl rfl rfl hg7455) rfl rfl hS ?_
    refine drwp_off1 rfl (guard_off rfl rfl rfl hg7455) rfl rfl ⟨hS, ?_⟩
    refine drwp_off rfl (guard_off rfl rfl rfl hg7455) rfl rfl hS ?_
    have hg7457 : ((decide (a7413 < (x0.length : Int))) && (t7453 == 0)) = false := by simp only [hg7455, Bool.and_true, Bool.true_and, Bool.and_false, Bool.false_and, Bool.or_true, Bool.true_or, Bool.or_false, Bool.false_or, Bool.not_true, Bool.not_false, Bool.not_not]
    refine drwp_take (v := .bool ((decide (a7413 < (x0.length : Int))) && (t7453 == 0))) rfl (guard_none rfl) rfl rfl (fun w_ hS_ => (ex_pand_f rfl rfl hg7455)) hS ?_
    refine dp rfl rfl rfl rfl (ex_assign rfl rfl) hS ?_
    refine dp rfl rfl rfl rfl (ex_assign rfl rfl) hS ?_
    refine drwp_done ?_
    replace HM := (HM.front 0 rfl rfl).drop
    exact at_meet [(6, .int .i64 a7413), (7, .bool ((decide (a7413 < (x0.length : Int))) && (t7453 == 0)))] ⟨rfl, HM⟩ (Sub.cons rfl (Sub.cons rfl Sub.nil))
  ·rintro _ w7458 ⟨rfl, HM⟩
   refine at_then ?_
   refine run_ret ?_
   have hR := Option.some.inj H
   subst hR
   exact at_ret2 rfl rfl rfl ⟨_, rfl, rfl, HM⟩

def impl_findCoin.f (k : Nat) (x0 : List Coin) (x1 : Ref) : Option (Int × Bool) := ((slices_BinarySearchFunc_impl_Coin.f k x0 x1).bind fun t7465 => some (t7465.1, t7465.2))
theorem impl_findCoin.calls {k : Nat} {x0 : List Coin} {x1 : Ref} {p0 : Value} {w : World} (hp0 : RdS kCoin w p0 x0) {r : Int × Bool} (H : impl_findCoin.f k x0 x1 = some r) :
  Calls Tryz.prog 103 ([p0, .agg #[(.int .i64 x1.fTx), (.int .i64 x1.fAt)]] : List Value).toArray w (fun e w_ => ∃ v, e = .returned v ∧ v = (.tuple #[.int .i64 r.1, .bool r.2]) ∧ Mem w [] w_ []) := by
 have HM := Mem.start w
 refine calls_run (N := 11) Tryz.func103 rfl rfl rfl rfl ?_
 unfold impl_findCoin.f at H
 refine run_seq ?_
 refine run_region rfl ?_
 refine od rfl rfl rfl rfl (does_box (cs := [.int .i64 x1.fTx, .int .i64 x1.fAt]) rfl rfl rfl HM) ?_
 rintro _ w7464 ⟨b7461, rfl, HM⟩
 refine ox rfl rfl rfl rfl (ex_assign rfl rfl) ?_
 refine ox rfl rfl rfl rfl (ex_assign rfl rfl) ?_
 refine ops_nil (at_then (run_seq ?_))
 obtain ⟨t7465, h7466, H⟩ := bind_some H
 refine run_region rfl ?_
 refine ox rfl rfl rfl rfl (ex_move rfl rfl) ?_
 refine ox rfl rfl rfl rfl (ex_loadN (cs := [(.int .i64 x1.fTx), (.int .i64 x1.fAt)]) rfl rfl Tryz.underlying81 rfl tsz81 rfl ((HM.box_at 0 rfl).sub 0 2 rfl)) ?_
 refine od rfl rfl rfl rfl (does_callk rfl callok118 rfl (slices_BinarySearchFunc_impl_Coin.calls (x0 := x0) (x1 := x1) (HM.rd hp0) h7466)) ?_
 rintro _ w7467 ⟨rfl, hn⟩
 replace HM : Mem w [] w7467 [box b7461 81 [.int .i64 x1.fTx, .int .i64 x1.fAt]] := HM.call hn
 refine ox rfl rfl rfl rfl (ex_extract rfl rfl rfl) ?_
 refine ox rfl rfl rfl rfl (ex_extract rfl rfl rfl) ?_
 refine ox rfl rfl rfl rfl (ex_assign rfl rfl) ?_
 refine ox rfl rfl rfl rfl (ex_assign rfl rfl) ?_
 refine ops_nil (at_then ?_)
 refine run_ret ?_
 replace HM := (HM.front 0 rfl rfl).drop
 have hR := Option.some.inj H
 subst hR
 exact at_ret2 rfl rfl rfl ⟨_, rfl, rfl, HM⟩
end Go.Proofs.YtpfaihnmonfkhaaGreatDoor.Zk
