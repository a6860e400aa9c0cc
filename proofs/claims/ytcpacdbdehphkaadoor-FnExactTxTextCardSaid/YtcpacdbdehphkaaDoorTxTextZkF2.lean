/- What functions of the program compute, each as a plain function, and that they do. Conditions: as each theorem states them. -/
import Derived.Test.YtcpacdbdehphkaaDoorTxTextZkF1
namespace Go.Proofs.YtcpacdbdehphkaaDoor.Zk
open Go Go.RowKit Go.IntWalk Go.Proofs
set_option linter.unusedVariables false
set_option linter.unusedSimpArgs false
set_option maxRecDepth 100000
set_option maxHeartbeats 4000000
def spec_l2Digits.f : Nat → Int → Option ByteArray
  | 0, _ => none
  | k + 1, x0 => (bif (decide (x0 < 10)) then some (strOfNums ([IntKind.u8.wrap (wrap64 (48 + x0))] : List Int)) else (chk ((10 : Int) != 0) (chk ((10 : Int) != 0) ((spec_l2Digits.f k (IntKind.i64.wrap (Int.tdiv x0 (10 : Int)))).bind fun t1363 => (chk (leB (t1363.size + (strOfNums ([IntKind.u8.wrap (wrap64 (48 + (Int.tmod x0 (10 : Int))))] : List Int)).size) 9223372036854775807) (some (t1363 ++ (strOfNums ([IntKind.u8.wrap (wrap64 (48 + (Int.tmod x0 (10 : Int))))] : List Int)))))))))
theorem spec_l2Digits.f_s (k : Nat) (x0 : Int) : spec_l2Digits.f (k + 1) x0 = (bif (decide (x0 < 10)) then some (strOfNums ([IntKind.u8.wrap (wrap64 (48 + x0))] : List Int)) else (chk ((10 : Int) != 0) (chk ((10 : Int) != 0) ((spec_l2Digits.f k (IntKind.i64.wrap (Int.tdiv x0 (10 : Int)))).bind fun t1363 => (chk (leB (t1363.size + (strOfNums ([IntKind.u8.wrap (wrap64 (48 + (Int.tmod x0 (10 : Int))))] : List Int)).size) 9223372036854775807) (some (t1363 ++ (strOfNums ([IntKind.u8.wrap (wrap64 (48 + (Int.tmod x0 (10 : Int))))] : List Int))))))))) := rfl
theorem spec_l2Digits.calls_all : ∀ (k : Nat) (x0 : Int), ∀ {w : World} {r : ByteArray} (H : spec_l2Digits.f k x0 = some r),
    Calls Tryd.prog 66 ([.int .i64 x0] : List Value).toArray w (fun e w_ => ∃ v, e = .returned v ∧ v = (.string r) ∧ Mem w [] w_ []) := by
  intro k
  induction k with
  | zero => intro x0  w  r H; exact nomatch H
  | succ k ih =>
  intro x0  w  r H
  have HM := Mem.start w
  refine calls_run (N := 20) Tryd.func66 rfl rfl rfl rfl ?_
  rw [spec_l2Digits.f_s] at H
  refine run_seq ?_
  refine run_region rfl ?_
  refine ops_ex rfl (guard_none rfl) rfl rfl (ex_assign rfl rfl) ?_
  refine ops_nil ?_
  refine at_then ?_
  refine run_seq ?_
  refine run_seq ?_
  refine run_region rfl ?_
  refine ops_ex rfl (guard_none rfl) rfl rfl (ex_move rfl rfl) ?_
  refine ops_ex rfl (guard_none rfl) rfl rfl (ex_lss rfl rfl rfl) ?_
  refine ops_nil ?_
  refine at_then ?_
  refine run_cond (b := (decide (x0 < 10))) rfl (fun hb1356 => ?_) (fun hb1356 => ?_)
  · replace H := cond_t hb1356 H
    refine run_seq ?_
    refine run_region rfl ?_
    refine ops_ex rfl (guard_none rfl) rfl rfl (ex_move rfl rfl) ?_
    refine ops_ex rfl (guard_none rfl) rfl rfl (ex_add rfl rfl rfl) ?_
    refine ops_ex rfl (guard_none rfl) rfl rfl (ex_conv rfl rfl (by rw [Tryd.underlying2]; rfl) Tryd.underlying5) ?_
    refine ops_does rfl (guard_none rfl) rfl rfl (does_lit (e := 5) (cs := [.int .u8 (IntKind.u8.wrap (wrap64 (48 + x0)))]) (xs := ([IntKind.u8.wrap (wrap64 (48 + x0))] : List Int)) kU8 rfl rfl (fun _ => by kernel_rfl) rfl rfl (fun _ _ h => by have h' : _ = [] := h; subst h'; exact (Elems.cons (d := kU8) (f := []) ⟨rfl, rfl⟩ .nil)) HM.emp) ?_
    rintro v1357 w1360 HM
    refine ops_ex rfl (guard_none rfl) rfl rfl (ex_bstr (e := 5) rfl rfl Tryd.underlying47 Tryd.underlying5 Tryd.underlying9 (HM.own_rd 0 rfl)) ?_
    refine ops_ex rfl (guard_none rfl) rfl rfl (ex_assign rfl rfl) ?_
    refine ops_nil ?_
    refine at_then ?_
    refine run_ret ?_
    refine at_then_ret ?_
    replace HM := (HM.front 0 rfl rfl).drop
    have hR := Option.some.inj H
    subst hR
    exact at_ret1 rfl rfl ⟨_, rfl, rfl, HM⟩
  · replace H := cond_f hb1356 H
    refine run_skip ?_
    refine at_then ?_
    refine run_seq ?_
    obtain ⟨e1361, H⟩ := chk_some H
    obtain ⟨e1362, H⟩ := chk_some H
    obtain ⟨t1363, h1364, H⟩ := bind_some H
    obtain ⟨e1368, H⟩ := chk_some H
    refine run_meet (fun ρ_ w_ => ρ_ = [(2, .string (t1363 ++ (strOfNums ([IntKind.u8.wrap (wrap64 (48 + (Int.tmod x0 (10 : Int))))] : List Int))))] ∧ Mem w [] w_ []) ?_ ?_
    · skip
      refine run_draw (fun w_ => Mem w [] w_ []) mixed rfl (l := #[false, false, false, false, false, false, false, false, false, false, false]) rfl ?_
      replace HM := HM.grow (fr_drew _)
      have hS := Mem.suf (M := []) HM
      refine drw_take (i := 0) (l' := #[true, false, false, false, false, false, false, false, false, false, false]) rfl (guard_none rfl) rfl rfl (by kernel_rfl) (fun w_ hS_ => (ex_move rfl rfl)) hS ?_
      refine drw_take (i := 1) (l' := #[true, true, false, false, false, false, false, false, false, false, false]) rfl (guard_none rfl) rfl rfl (by kernel_rfl) (fun w_ hS_ => (ex_quok rfl rfl rfl e1361)) hS ?_
      refine drw_take (i := 3) (l' := #[true, true, false, true, false, false, false, false, false, false, false]) rfl (guard_none rfl) rfl rfl (by kernel_rfl) (fun w_ hS_ => (ex_move rfl rfl)) hS ?_
      refine drw_take (i := 4) (l' := #[true, true, false, true, true, false, false, false, false, false, false]) rfl (guard_none rfl) rfl rfl (by kernel_rfl) (fun w_ hS_ => (ex_remk rfl rfl rfl e1362)) hS ?_
      refine drw_take (i := 5) (l' := #[true, true, false, true, true, true, false, false, false, false, false]) rfl (guard_none rfl) rfl rfl (by kernel_rfl) (fun w_ hS_ => (ex_add rfl rfl rfl)) hS ?_
      refine drw_take (i := 6) (l' := #[true, true, false, true, true, true, true, false, false, false, false]) rfl (guard_none rfl) rfl rfl (by kernel_rfl) (fun w_ hS_ => (ex_conv rfl rfl (by rw [Tryd.underlying2]; rfl) Tryd.underlying5)) hS ?_
      refine drw_any [2, 7] (by kernel_rfl) rfl (.cons ?_ (.cons ?_ .nil))
      · skip
        refine br_does (l' := #[true, true, true, true, true, true, true, false, false, false, false]) rfl (guard_none rfl) rfl rfl (by kernel_rfl) (does_callk rfl callok66 rfl (ih (IntKind.i64.wrap (Int.tdiv x0 (10 : Int))) h1364)) ?_
        rintro _ w1369 ⟨rfl, hn⟩
        replace HM : Mem w [] w1369 [] := HM.call hn
        refine ⟨Mem.suf (M := []) HM, ?_⟩
        have hS := Mem.suf (M := []) HM
        refine drw_any [7] (by kernel_rfl) rfl (.cons ?_ .nil)
        refine br_does (l' := #[true, true, true, true, true, true, true, true, false, false, false]) rfl (guard_none rfl) rfl rfl (by kernel_rfl) (does_lit (e := 5) (cs := [.int .u8 (IntKind.u8.wrap (wrap64 (48 + (Int.tmod x0 (10 : Int)))))]) (xs := ([IntKind.u8.wrap (wrap64 (48 + (Int.tmod x0 (10 : Int))))] : List Int)) kU8 rfl rfl (fun _ => by kernel_rfl) rfl rfl (fun _ _ h => by have h' : _ = [] := h; subst h'; exact (Elems.cons (d := kU8) (f := []) ⟨rfl, rfl⟩ .nil)) HM.emp) ?_
        rintro v1365 w1370 HM
        refine ⟨Mem.suf (M := [own kU8 5 v1365 ([IntKind.u8.wrap (wrap64 (48 + (Int.tmod x0 (10 : Int))))] : List Int)]) HM, ?_⟩
        have hS := Mem.suf (M := [own kU8 5 v1365 ([IntKind.u8.wrap (wrap64 (48 + (Int.tmod x0 (10 : Int))))] : List Int)]) HM
        refine drw_any [8] (by kernel_rfl) rfl (.cons ?_ .nil)
        refine br_does (l' := #[true, true, true, true, true, true, true, true, true, false, false]) rfl (guard_none rfl) rfl rfl (by kernel_rfl) (does_ex' (ex_bstr (e := 5) rfl rfl Tryd.underlying47 Tryd.underlying5 Tryd.underlying9 (HM.own_rd 0 rfl))) ?_
        rintro _ _ ⟨rfl, rfl⟩
        refine ⟨hS, ?_⟩
        refine drw_take (i := 9) (l' := #[true, true, true, true, true, true, true, true, true, true, false]) rfl (guard_none rfl) rfl rfl (by kernel_rfl) (fun w_ hS_ => (ex_sadd rfl rfl rfl (leB_le e1368))) hS ?_
        refine drw_take (i := 10) (l' := #[true, true, true, true, true, true, true, true, true, true, true]) rfl (guard_none rfl) rfl rfl (by kernel_rfl) (fun w_ hS_ => (ex_assign rfl rfl)) hS ?_
        refine drw_done (by kernel_rfl) ?_
        replace HM := (HM.front 0 rfl rfl).drop
        exact at_meet [(2, .string (t1363 ++ (strOfNums ([IntKind.u8.wrap (wrap64 (48 + (Int.tmod x0 (10 : Int))))] : List Int))))] ⟨rfl, HM⟩ (Sub.cons rfl Sub.nil)
      · skip
        refine br_does (l' := #[true, true, false, true, true, true, true, true, false, false, false]) rfl (guard_none rfl) rfl rfl (by kernel_rfl) (does_lit (e := 5) (cs := [.int .u8 (IntKind.u8.wrap (wrap64 (48 + (Int.tmod x0 (10 : Int)))))]) (xs := ([IntKind.u8.wrap (wrap64 (48 + (Int.tmod x0 (10 : Int))))] : List Int)) kU8 rfl rfl (fun _ => by kernel_rfl) rfl rfl (fun _ _ h => by have h' : _ = [] := h; subst h'; exact (Elems.cons (d := kU8) (f := []) ⟨rfl, rfl⟩ .nil)) HM.emp) ?_
        rintro v1365 w1371 HM
        refine ⟨Mem.suf (M := [own kU8 5 v1365 ([IntKind.u8.wrap (wrap64 (48 + (Int.tmod x0 (10 : Int))))] : List Int)]) HM, ?_⟩
        have hS := Mem.suf (M := [own kU8 5 v1365 ([IntKind.u8.wrap (wrap64 (48 + (Int.tmod x0 (10 : Int))))] : List Int)]) HM
        refine drw_any [2, 8] (by kernel_rfl) rfl (.cons ?_ (.cons ?_ .nil))
        · skip
          refine br_does (l' := #[true, true, true, true, true, true, true, true, false, false, false]) rfl (guard_none rfl) rfl rfl (by kernel_rfl) (does_callk rfl callok66 rfl (ih (IntKind.i64.wrap (Int.tdiv x0 (10 : Int))) h1364)) ?_
          rintro _ w1372 ⟨rfl, hn⟩
          replace HM : Mem w [] w1372 [own kU8 5 v1365 ([IntKind.u8.wrap (wrap64 (48 + (Int.tmod x0 (10 : Int))))] : List Int)] := HM.call hn
          refine ⟨Mem.suf (M := [own kU8 5 v1365 ([IntKind.u8.wrap (wrap64 (48 + (Int.tmod x0 (10 : Int))))] : List Int)]) HM, ?_⟩
          have hS := Mem.suf (M := [own kU8 5 v1365 ([IntKind.u8.wrap (wrap64 (48 + (Int.tmod x0 (10 : Int))))] : List Int)]) HM
          refine drw_any [8] (by kernel_rfl) rfl (.cons ?_ .nil)
          refine br_does (l' := #[true, true, true, true, true, true, true, true, true, false, false]) rfl (guard_none rfl) rfl rfl (by kernel_rfl) (does_ex' (ex_bstr (e := 5) rfl rfl Tryd.underlying47 Tryd.underlying5 Tryd.underlying9 (HM.own_rd 0 rfl))) ?_
          rintro _ _ ⟨rfl, rfl⟩
          refine ⟨hS, ?_⟩
          refine drw_take (i := 9) (l' := #[true, true, true, true, true, true, true, true, true, true, false]) rfl (guard_none rfl) rfl rfl (by kernel_rfl) (fun w_ hS_ => (ex_sadd rfl rfl rfl (leB_le e1368))) hS ?_
          refine drw_take (i := 10) (l' := #[true, true, true, true, true, true, true, true, true, true, true]) rfl (guard_none rfl) rfl rfl (by kernel_rfl) (fun w_ hS_ => (ex_assign rfl rfl)) hS ?_
          refine drw_done (by kernel_rfl) ?_
          replace HM := (HM.front 0 rfl rfl).drop
          exact at_meet [(2, .string (t1363 ++ (strOfNums ([IntKind.u8.wrap (wrap64 (48 + (Int.tmod x0 (10 : Int))))] : List Int))))] ⟨rfl, HM⟩ (Sub.cons rfl Sub.nil)
        · skip
          refine br_does (l' := #[true, true, false, true, true, true, true, true, true, false, false]) rfl (guard_none rfl) rfl rfl (by kernel_rfl) (does_ex' (ex_bstr (e := 5) rfl rfl Tryd.underlying47 Tryd.underlying5 Tryd.underlying9 (HM.own_rd 0 rfl))) ?_
          rintro _ _ ⟨rfl, rfl⟩
          refine ⟨hS, ?_⟩
          refine drw_any [2] (by kernel_rfl) rfl (.cons ?_ .nil)
          refine br_does (l' := #[true, true, true, true, true, true, true, true, true, false, false]) rfl (guard_none rfl) rfl rfl (by kernel_rfl) (does_callk rfl callok66 rfl (ih (IntKind.i64.wrap (Int.tdiv x0 (10 : Int))) h1364)) ?_
          rintro _ w1373 ⟨rfl, hn⟩
          replace HM : Mem w [] w1373 [own kU8 5 v1365 ([IntKind.u8.wrap (wrap64 (48 + (Int.tmod x0 (10 : Int))))] : List Int)] := HM.call hn
          refine ⟨Mem.suf (M := [own kU8 5 v1365 ([IntKind.u8.wrap (wrap64 (48 + (Int.tmod x0 (10 : Int))))] : List Int)]) HM, ?_⟩
          have hS := Mem.suf (M := [own kU8 5 v1365 ([IntKind.u8.wrap (wrap64 (48 + (Int.tmod x0 (10 : Int))))] : List Int)]) HM
          refine drw_take (i := 9) (l' := #[true, true, true, true, true, true, true, true, true, true, false]) rfl (guard_none rfl) rfl rfl (by kernel_rfl) (fun w_ hS_ => (ex_sadd rfl rfl rfl (leB_le e1368))) hS ?_
          refine drw_take (i := 10) (l' := #[true, true, true, true, true, true, true, true, true, true, true]) rfl (guard_none rfl) rfl rfl (by kernel_rfl) (fun w_ hS_ => (ex_assign rfl rfl)) hS ?_
          refine drw_done (by kernel_rfl) ?_
          replace HM := (HM.front 0 rfl rfl).drop
          exact at_meet [(2, .string (t1363 ++ (strOfNums ([IntKind.u8.wrap (wrap64 (48 + (Int.tmod x0 (10 : Int))))] : List Int))))] ⟨rfl, HM⟩ (Sub.cons rfl Sub.nil)
    · rintro _ w1374 ⟨rfl, HM⟩
      refine at_then ?_
      refine run_ret ?_
      have hR := Option.some.inj H
      subst hR
      exact at_ret1 rfl rfl ⟨_, rfl, rfl, HM⟩
theorem spec_l2Digits.calls {k : Nat} {x0 : Int}  {w : World}  {r : ByteArray} (H : spec_l2Digits.f k x0 = some r) :
    Calls Tryd.prog 66 ([.int .i64 x0] : List Value).toArray w (fun e w_ => ∃ v, e = .returned v ∧ v = (.string r) ∧ Mem w [] w_ []) := spec_l2Digits.calls_all k x0  H

def spec_l2Text.l0 (x0 : Rule) : Nat → ByteArray → Int → Option ByteArray
  | 0, _, _ => none
  | k + 1, a1540, a1541 => (bif (decide (a1541 < (x0.fKeys.length : Int))) then (chk (leB (a1540.size + (⟨#[44]⟩ : ByteArray).size) 9223372036854775807) (chk (idxOk a1541 x0.fKeys.length) ((spec_l2Digits.f k (gt x0.fKeys a1541)).bind fun t1555 => (chk (leB ((a1540 ++ (⟨#[44]⟩ : ByteArray)).size + t1555.size) 9223372036854775807) (spec_l2Text.l0 x0 k ((a1540 ++ (⟨#[44]⟩ : ByteArray)) ++ t1555) (wrap64 (a1541 + 1))))))) else some a1540)
theorem spec_l2Text.l0_z (x0 : Rule) (a1540 : ByteArray) (a1541 : Int) : spec_l2Text.l0 x0 0 a1540 a1541 = none := rfl
theorem spec_l2Text.l0_s (x0 : Rule) (k : Nat) (a1540 : ByteArray) (a1541 : Int) : spec_l2Text.l0 x0 (k + 1) a1540 a1541 = (bif (decide (a1541 < (x0.fKeys.length : Int))) then (chk (leB (a1540.size + (⟨#[44]⟩ : ByteArray).size) 9223372036854775807) (chk (idxOk a1541 x0.fKeys.length) ((spec_l2Digits.f k (gt x0.fKeys a1541)).bind fun t1555 => (chk (leB ((a1540 ++ (⟨#[44]⟩ : ByteArray)).size + t1555.size) 9223372036854775807) (spec_l2Text.l0 x0 k ((a1540 ++ (⟨#[44]⟩ : ByteArray)) ++ t1555) (wrap64 (a1541 + 1))))))) else some a1540) := rfl
def spec_l2Text.f (k : Nat) (x0 : Rule) : Option ByteArray := (chk (idxOk (0 : Int) x0.fKeys.length) ((spec_l2Digits.f k x0.fNeed).bind fun t1499 => (chk (leB (t1499.size + (⟨#[32, 111, 102, 32]⟩ : ByteArray).size) 9223372036854775807) ((spec_l2Digits.f k (gt x0.fKeys (0 : Int))).bind fun t1502 => (chk (leB ((t1499 ++ (⟨#[32, 111, 102, 32]⟩ : ByteArray)).size + t1502.size) 9223372036854775807) ((spec_l2Text.l0 x0 k ((t1499 ++ (⟨#[32, 111, 102, 32]⟩ : ByteArray)) ++ t1502) 1).bind (fun a1530 => (bif (x0.fAfter != 0) then (chk (leB (a1530.size + (⟨#[32, 97, 102, 116, 101, 114, 32]⟩ : ByteArray).size) 9223372036854775807) ((spec_l2Digits.f k x0.fAfter).bind fun t1562 => (chk (leB ((a1530 ++ (⟨#[32, 97, 102, 116, 101, 114, 32]⟩ : ByteArray)).size + t1562.size) 9223372036854775807) (some ((a1530 ++ (⟨#[32, 97, 102, 116, 101, 114, 32]⟩ : ByteArray)) ++ t1562))))) else some a1530))))))))
theorem spec_l2Text.calls {k : Nat} {x0 : Rule} {b0 f0 : Nat} {p0_0 : Value} {w : World} (hc0 : CellsAt w b0 f0 [p0_0, .int .i64 x0.fNeed, .int .i64 x0.fAfter]) (hp0_0 : RdS kInt w p0_0 x0.fKeys) {r : ByteArray} (H : spec_l2Text.f k x0 = some r) :
    Calls Tryd.prog 68 ([.pointer (some ⟨b0, f0, none⟩)] : List Value).toArray w (fun e w_ => ∃ v, e = .returned v ∧ v = (.string r) ∧ Mem w [] w_ []) := by
  have HM := Mem.start w
  refine calls_run (N := 53) Tryd.func68 rfl rfl rfl rfl ?_
  unfold spec_l2Text.f at H
  refine run_seq ?_
  refine run_region rfl ?_
  refine ops_ex rfl (guard_none rfl) rfl rfl (ex_assign rfl rfl) ?_
  refine ops_nil ?_
  refine at_then ?_
  refine run_seq ?_
  obtain ⟨e1497, H⟩ := chk_some H
  obtain ⟨t1499, h1500, H⟩ := bind_some H
  obtain ⟨e1501, H⟩ := chk_some H
  obtain ⟨t1502, h1503, H⟩ := bind_some H
  obtain ⟨e1504, H⟩ := chk_some H
  refine run_drawf (fun w_ => Mem w [] w_ []) [(0, true), (1, true), (2, true), (3, true), (6, true), (7, true), (8, true), (9, true), (10, true), (11, true), (4, false), (5, true), (12, false), (13, true), (14, true)] mixed rfl rfl (by kernel_rfl) ?_
  replace HM := HM.grow (fr_drew _)
  have hS := Mem.suf (M := []) HM
  refine drwp_take rfl (guard_none rfl) rfl rfl (fun w_ hS_ => (ex_move rfl rfl)) hS ?_
  refine drwp_take rfl (guard_none rfl) rfl rfl (fun w_ hS_ => (ex_nilCheck rfl rfl)) hS ?_
  refine drwp_take rfl (guard_none rfl) rfl rfl (fun w_ hS_ => (ex_fieldAddr (off' := f0 + 1) rfl rfl Tryd.underlying40 rfl tsz2 rfl)) hS ?_
  refine drwp_take rfl (guard_none rfl) rfl rfl (fun w_ hS_ => (ex_load1 rfl rfl Tryd.underlying2 rfl ((hS_.at_ hc0) 1 _ rfl))) hS ?_
  refine drwp_take rfl (guard_none rfl) rfl rfl (fun w_ hS_ => (ex_move rfl rfl)) hS ?_
  refine drwp_take rfl (guard_none rfl) rfl rfl (fun w_ hS_ => (ex_nilCheck rfl rfl)) hS ?_
  refine drwp_take rfl (guard_none rfl) rfl rfl (fun w_ hS_ => (ex_fieldAddr (off' := f0) rfl rfl Tryd.underlying40 rfl tsz38 rfl)) hS ?_
  refine drwp_take rfl (guard_none rfl) rfl rfl (fun w_ hS_ => (ex_load1 rfl rfl Tryd.underlying38 rfl ((hS_.at_ hc0) 0 _ rfl))) hS ?_
  have hc1498 : CellsAt _ (sb p0_0) (so p0_0 + ((0 : Int)).toNat * 1) [(.int .i64 (gt x0.fKeys (0 : Int)))] := rd_plain hp0_0 e1497
  refine drwp_take rfl (guard_none rfl) rfl rfl (fun w_ hS_ => (ex_indexAddr (d := kInt) rfl rfl rfl Tryd.underlying38 tsz2 hp0_0 (idx_lo e1497) (idx_hi e1497))) hS ?_
  refine drwp_take rfl (guard_none rfl) rfl rfl (fun w_ hS_ => (ex_load1 rfl rfl Tryd.underlying2 rfl ((hS_.at_ hc1498) 0 _ rfl))) hS ?_
  refine drwp_one rfl (guard_none rfl) rfl rfl (does_callk rfl callok66 rfl (spec_l2Digits.calls (x0 := x0.fNeed) h1500)) ?_
  rintro _ w1505 ⟨rfl, hn⟩
  replace HM : Mem w [] w1505 [] := HM.call hn
  refine ⟨Mem.suf (M := []) HM, ?_⟩
  have hS := Mem.suf (M := []) HM
  refine drwp_take rfl (guard_none rfl) rfl rfl (fun w_ hS_ => (ex_sadd rfl rfl rfl (leB_le e1501))) hS ?_
  refine drwp_one rfl (guard_none rfl) rfl rfl (does_callk rfl callok66 rfl (spec_l2Digits.calls (x0 := (gt x0.fKeys (0 : Int))) h1503)) ?_
  rintro _ w1506 ⟨rfl, hn⟩
  replace HM : Mem w [] w1506 [] := HM.call hn
  refine ⟨Mem.suf (M := []) HM, ?_⟩
  have hS := Mem.suf (M := []) HM
  refine drwp_take rfl (guard_none rfl) rfl rfl (fun w_ hS_ => (ex_sadd rfl rfl rfl (leB_le e1504))) hS ?_
  refine drwp_take rfl (guard_none rfl) rfl rfl (fun w_ hS_ => (ex_assign rfl rfl)) hS ?_
  refine drwp_done ?_
  refine at_then ?_
  obtain ⟨o1531, ho1532, H⟩ := bind_some H
  refine run_mid (fun ρ_ w_ => ∃ a1530 : ByteArray, a1530 = o1531 ∧ ρ_ = [(0, .pointer (some ⟨b0, f0, none⟩)), (3, .string a1530)] ∧ Mem w [] w_ []) ?_ ?_
  · clear H
    refine run_seq ?_
    refine run_region rfl ?_
    refine ops_ex rfl (guard_none rfl) rfl rfl (ex_assign rfl rfl) ?_
    refine ops_nil ?_
    refine at_then ?_
    refine run_block ?_
    refine run_loop (fun k_ ρ_ w_ => ∃ a1540 : ByteArray, ∃ a1541 : Int, spec_l2Text.l0 x0 k_ a1540 a1541 = some o1531 ∧ ρ_ = [(0, .pointer (some ⟨b0, f0, none⟩)), (3, .string a1540), (4, .int .i64 a1541)] ∧ Mem w [] w_ []) k (ρ1 := [(0, .pointer (some ⟨b0, f0, none⟩)), (3, .string ((t1499 ++ (⟨#[32, 111, 102, 32]⟩ : ByteArray)) ++ t1502)), (4, .int .i64 1)]) ⟨_, _, ho1532, rfl, HM⟩ (Sub.cons rfl (Sub.cons rfl (Sub.cons rfl Sub.nil))) ?_
    clear HM ho1532
    rintro k1549 _ w1550 ⟨a1540, a1541, ho1532, rfl, HM⟩
    obtain _ | k1549 := k1549
    · exact nomatch ((spec_l2Text.l0_z x0 a1540 a1541).symm.trans ho1532)
    replace ho1532 := (spec_l2Text.l0_s x0 k1549 a1540 a1541).symm.trans ho1532
    refine run_seq ?_
    refine run_seq ?_
    refine run_region rfl ?_
    refine ops_ex rfl (guard_none rfl) rfl rfl (ex_move rfl rfl) ?_
    refine ops_ex rfl (guard_none rfl) rfl rfl (ex_move rfl rfl) ?_
    refine ops_ex rfl (guard_none rfl) rfl rfl (ex_nilCheck rfl rfl) ?_
    refine ops_ex rfl (guard_none rfl) rfl rfl (ex_fieldAddr (off' := f0) rfl rfl Tryd.underlying40 rfl tsz38 rfl) ?_
    refine ops_ex rfl (guard_none rfl) rfl rfl (ex_load1 rfl rfl Tryd.underlying38 rfl ((HM.at_ hc0) 0 _ rfl)) ?_
    refine ops_ex rfl (guard_none rfl) rfl rfl (ex_len (d := kInt) (xs := x0.fKeys) rfl rfl Tryd.underlying38 hp0_0) ?_
    refine ops_ex rfl (guard_none rfl) rfl rfl (ex_lss rfl rfl rfl) ?_
    refine ops_nil ?_
    refine at_then ?_
    refine run_cond (b := (decide (a1541 < (x0.fKeys.length : Int)))) rfl (fun hb1551 => ?_) (fun hb1551 => ?_)
    · replace ho1532 := cond_t hb1551 ho1532
      refine run_skip ?_
      refine at_then ?_
      refine run_seq ?_
      refine run_block ?_
      obtain ⟨e1552, ho1532⟩ := chk_some ho1532
      obtain ⟨e1553, ho1532⟩ := chk_some ho1532
      obtain ⟨t1555, h1556, ho1532⟩ := bind_some ho1532
      obtain ⟨e1557, ho1532⟩ := chk_some ho1532
      refine run_region rfl ?_
      refine ops_ex rfl (guard_none rfl) rfl rfl (ex_move rfl rfl) ?_
      refine ops_ex rfl (guard_none rfl) rfl rfl (ex_sadd rfl rfl rfl (leB_le e1552)) ?_
      refine ops_ex rfl (guard_none rfl) rfl rfl (ex_move rfl rfl) ?_
      refine ops_ex rfl (guard_none rfl) rfl rfl (ex_nilCheck rfl rfl) ?_
      refine ops_ex rfl (guard_none rfl) rfl rfl (ex_fieldAddr (off' := f0) rfl rfl Tryd.underlying40 rfl tsz38 rfl) ?_
      refine ops_ex rfl (guard_none rfl) rfl rfl (ex_load1 rfl rfl Tryd.underlying38 rfl ((HM.at_ hc0) 0 _ rfl)) ?_
      refine ops_ex rfl (guard_none rfl) rfl rfl (ex_move rfl rfl) ?_
      have hc1554 : CellsAt _ (sb p0_0) (so p0_0 + (a1541).toNat * 1) [(.int .i64 (gt x0.fKeys a1541))] := rd_plain hp0_0 e1553
      refine ops_ex rfl (guard_none rfl) rfl rfl (ex_indexAddr (d := kInt) rfl rfl rfl Tryd.underlying38 tsz2 hp0_0 (idx_lo e1553) (idx_hi e1553)) ?_
      refine ops_ex rfl (guard_none rfl) rfl rfl (ex_load1 rfl rfl Tryd.underlying2 rfl ((HM.at_ hc1554) 0 _ rfl)) ?_
      refine ops_does rfl (guard_none rfl) rfl rfl (does_callk rfl callok66 rfl (spec_l2Digits.calls (x0 := (gt x0.fKeys a1541)) h1556)) ?_
      rintro _ w1558 ⟨rfl, hn⟩
      replace HM : Mem w [] w1558 [] := HM.call hn
      refine ops_ex rfl (guard_none rfl) rfl rfl (ex_sadd rfl rfl rfl (leB_le e1557)) ?_
      refine ops_ex rfl (guard_none rfl) rfl rfl (ex_assign rfl rfl) ?_
      refine ops_nil ?_
      refine at_block ?_
      refine at_then ?_
      refine run_region rfl ?_
      refine ops_ex rfl (guard_none rfl) rfl rfl (ex_move rfl rfl) ?_
      refine ops_ex rfl (guard_none rfl) rfl rfl (ex_add rfl rfl rfl) ?_
      refine ops_ex rfl (guard_none rfl) rfl rfl (ex_assign rfl rfl) ?_
      refine ops_nil ?_
      exact at_again k1549 (ρ1 := [(0, .pointer (some ⟨b0, f0, none⟩)), (3, .string ((a1540 ++ (⟨#[44]⟩ : ByteArray)) ++ t1555)), (4, .int .i64 (wrap64 (a1541 + 1)))]) (Nat.lt_succ_self _) ⟨_, _, ho1532, rfl, HM⟩ (Sub.cons rfl (Sub.cons rfl (Sub.cons rfl Sub.nil)))
    · replace ho1532 := cond_f hb1551 ho1532
      refine run_exit ?_
      refine at_then_exit ?_
      refine at_then_exit ?_
      refine at_block_exit ?_
      exact at_mid (ρ' := [(0, .pointer (some ⟨b0, f0, none⟩)), (3, .string a1540)]) ⟨_, (Option.some.inj ho1532), rfl, HM⟩ (Sub.cons rfl (Sub.cons rfl Sub.nil))
  · rintro _ w1559 ⟨a1530, rfl, rfl, HM⟩
    refine run_seq ?_
    refine run_seq ?_
    refine run_region rfl ?_
    refine ops_ex rfl (guard_none rfl) rfl rfl (ex_move rfl rfl) ?_
    refine ops_ex rfl (guard_none rfl) rfl rfl (ex_nilCheck rfl rfl) ?_
    refine ops_ex rfl (guard_none rfl) rfl rfl (ex_fieldAddr (off' := f0 + 2) rfl rfl Tryd.underlying40 rfl tsz2 rfl) ?_
    refine ops_ex rfl (guard_none rfl) rfl rfl (ex_load1 rfl rfl Tryd.underlying2 rfl ((HM.at_ hc0) 2 _ rfl)) ?_
    refine ops_ex rfl (guard_none rfl) rfl rfl (ex_neq rfl rfl rfl) ?_
    refine ops_nil ?_
    refine at_then ?_
    refine run_cond (b := (x0.fAfter != 0)) rfl (fun hb1560 => ?_) (fun hb1560 => ?_)
    · replace H := cond_t hb1560 H
      obtain ⟨e1561, H⟩ := chk_some H
      obtain ⟨t1562, h1563, H⟩ := bind_some H
      obtain ⟨e1564, H⟩ := chk_some H
      refine run_region rfl ?_
      refine ops_ex rfl (guard_none rfl) rfl rfl (ex_move rfl rfl) ?_
      refine ops_ex rfl (guard_none rfl) rfl rfl (ex_sadd rfl rfl rfl (leB_le e1561)) ?_
      refine ops_ex rfl (guard_none rfl) rfl rfl (ex_move rfl rfl) ?_
      refine ops_ex rfl (guard_none rfl) rfl rfl (ex_nilCheck rfl rfl) ?_
      refine ops_ex rfl (guard_none rfl) rfl rfl (ex_fieldAddr (off' := f0 + 2) rfl rfl Tryd.underlying40 rfl tsz2 rfl) ?_
      refine ops_ex rfl (guard_none rfl) rfl rfl (ex_load1 rfl rfl Tryd.underlying2 rfl ((HM.at_ hc0) 2 _ rfl)) ?_
      refine ops_does rfl (guard_none rfl) rfl rfl (does_callk rfl callok66 rfl (spec_l2Digits.calls (x0 := x0.fAfter) h1563)) ?_
      rintro _ w1565 ⟨rfl, hn⟩
      replace HM : Mem w [] w1565 [] := HM.call hn
      refine ops_ex rfl (guard_none rfl) rfl rfl (ex_sadd rfl rfl rfl (leB_le e1564)) ?_
      refine ops_ex rfl (guard_none rfl) rfl rfl (ex_assign rfl rfl) ?_
      refine ops_nil ?_
      refine at_then ?_
      refine run_seq ?_
      refine run_region rfl ?_
      refine ops_ex rfl (guard_none rfl) rfl rfl (ex_move rfl rfl) ?_
      refine ops_ex rfl (guard_none rfl) rfl rfl (ex_assign rfl rfl) ?_
      refine ops_nil ?_
      refine at_then ?_
      refine run_ret ?_
      have hR := Option.some.inj H
      subst hR
      exact at_ret1 rfl rfl ⟨_, rfl, rfl, HM⟩
    · replace H := cond_f hb1560 H
      refine run_skip ?_
      refine at_then ?_
      refine run_seq ?_
      refine run_region rfl ?_
      refine ops_ex rfl (guard_none rfl) rfl rfl (ex_move rfl rfl) ?_
      refine ops_ex rfl (guard_none rfl) rfl rfl (ex_assign rfl rfl) ?_
      refine ops_nil ?_
      refine at_then ?_
      refine run_ret ?_
      have hR := Option.some.inj H
      subst hR
      exact at_ret1 rfl rfl ⟨_, rfl, rfl, HM⟩

def spec_l3Swap.l0 (x1 : Int) (x2 : Int) : Nat → (List Int) → Int → Option ((List Int))
  | 0, _, _ => none
  | k + 1, a1620, a1622 => (bif (decide (a1622 < (a1620.length : Int))) then (chk (idxOk a1622 a1620.length) (bif ((gt a1620 a1622) == x1) then (chk (idxOk a1622 a1620.length) (spec_l3Swap.l0 x1 x2 k (a1620.set (a1622).toNat x2) (wrap64 (a1622 + 1)))) else spec_l3Swap.l0 x1 x2 k a1620 (wrap64 (a1622 + 1)))) else some a1620)
theorem spec_l3Swap.l0_z (x1 : Int) (x2 : Int) (a1620 : List Int) (a1622 : Int) : spec_l3Swap.l0 x1 x2 0 a1620 a1622 = none := rfl
theorem spec_l3Swap.l0_s (x1 : Int) (x2 : Int) (k : Nat) (a1620 : List Int) (a1622 : Int) : spec_l3Swap.l0 x1 x2 (k + 1) a1620 a1622 = (bif (decide (a1622 < (a1620.length : Int))) then (chk (idxOk a1622 a1620.length) (bif ((gt a1620 a1622) == x1) then (chk (idxOk a1622 a1620.length) (spec_l3Swap.l0 x1 x2 k (a1620.set (a1622).toNat x2) (wrap64 (a1622 + 1)))) else spec_l3Swap.l0 x1 x2 k a1620 (wrap64 (a1622 + 1)))) else some a1620) := rfl
def spec_l3Swap.f (k : Nat) (x0 : ByteArray) (x1 : Int) (x2 : Int) : Option ByteArray := ((spec_l3Swap.l0 x1 x2 k (strNums x0) 0).bind (fun a1611 => some (strOfNums a1611)))
theorem spec_l3Swap.calls {k : Nat} {x0 : ByteArray} {x1 : Int} {x2 : Int}  {w : World}  {r : ByteArray} (H : spec_l3Swap.f k x0 x1 x2 = some r) :
    Calls Tryd.prog 67 ([.string x0, .int .u8 x1, .int .u8 x2] : List Value).toArray w (fun e w_ => ∃ v, e = .returned v ∧ v = (.string r) ∧ Mem w [] w_ []) := by
  have HM := Mem.start w
  refine calls_run (N := 29) Tryd.func67 rfl rfl rfl rfl ?_
  unfold spec_l3Swap.f at H
  refine run_seq ?_
  refine run_region rfl ?_
  refine ops_ex rfl (guard_none rfl) rfl rfl (ex_assign rfl rfl) ?_
  refine ops_nil ?_
  refine at_then ?_
  refine run_seq ?_
  refine run_region rfl ?_
  refine ops_ex rfl (guard_none rfl) rfl rfl (ex_move rfl rfl) ?_
  refine ops_does rfl (guard_none rfl) rfl rfl (does_sbytes (e := 5) rfl rfl Tryd.underlying9 Tryd.underlying47 Tryd.underlying5 HM) ?_
  rintro v1591 w1593 HM
  refine ops_ex rfl (guard_none rfl) rfl rfl (ex_assign rfl rfl) ?_
  refine ops_nil ?_
  refine at_then ?_
  obtain ⟨o1613, ho1614, H⟩ := bind_some H
  refine run_mid (fun ρ_ w_ => ∃ v1610 : Value, ∃ a1611 : List Int, a1611 = o1613 ∧ ρ_ = [(7, v1610)] ∧ Mem w [] w_ [brow 5 v1610 a1611]) ?_ ?_
  · clear H
    refine run_seq ?_
    refine run_region rfl ?_
    refine ops_ex rfl (guard_none rfl) rfl rfl (ex_assign rfl rfl) ?_
    refine ops_nil ?_
    refine at_then ?_
    refine run_block ?_
    refine run_loop (fun k_ ρ_ w_ => ∃ v1619 : Value, ∃ a1620 : List Int, ∃ a1622 : Int, spec_l3Swap.l0 x1 x2 k_ a1620 a1622 = some o1613 ∧ ρ_ = [(1, .int .u8 x1), (2, .int .u8 x2), (7, v1619), (8, .int .i64 a1622)] ∧ Mem w [] w_ [brow 5 v1619 a1620]) k (ρ1 := [(1, .int .u8 x1), (2, .int .u8 x2), (7, v1591), (8, .int .i64 0)]) ⟨_, _, _, ho1614, rfl, HM⟩ (Sub.cons rfl (Sub.cons rfl (Sub.cons rfl (Sub.cons rfl Sub.nil)))) ?_
    clear HM ho1614
    rintro k1627 _ w1628 ⟨v1619, a1620, a1622, ho1614, rfl, HM⟩
    obtain _ | k1627 := k1627
    · exact nomatch ((spec_l3Swap.l0_z x1 x2 a1620 a1622).symm.trans ho1614)
    replace ho1614 := (spec_l3Swap.l0_s x1 x2 k1627 a1620 a1622).symm.trans ho1614
    refine run_seq ?_
    refine run_seq ?_
    refine run_region rfl ?_
    refine ops_ex rfl (guard_none rfl) rfl rfl (ex_move rfl rfl) ?_
    refine ops_ex rfl (guard_none rfl) rfl rfl (ex_move rfl rfl) ?_
    refine ops_ex rfl (guard_none rfl) rfl rfl (ex_len (d := kU8) (xs := a1620) rfl rfl Tryd.underlying47 (HM.brow_rd (hl := fun _ => rfl) (h1 := fun _ => onesC rfl onesN) 0 rfl)) ?_
    refine ops_ex rfl (guard_none rfl) rfl rfl (ex_lss rfl rfl rfl) ?_
    refine ops_nil ?_
    refine at_then ?_
    refine run_cond (b := (decide (a1622 < (a1620.length : Int)))) rfl (fun hb1629 => ?_) (fun hb1629 => ?_)
    · replace ho1614 := cond_t hb1629 ho1614
      refine run_skip ?_
      refine at_then ?_
      refine run_seq ?_
      refine run_block ?_
      refine run_seq ?_
      obtain ⟨e1630, ho1614⟩ := chk_some ho1614
      refine run_region rfl ?_
      refine ops_ex rfl (guard_none rfl) rfl rfl (ex_move rfl rfl) ?_
      refine ops_ex rfl (guard_none rfl) rfl rfl (ex_move rfl rfl) ?_
      refine ops_ex rfl (guard_none rfl) rfl rfl (ex_indexAddr (d := kU8) rfl rfl rfl Tryd.underlying47 tsz5 (HM.brow_rd (hl := fun _ => rfl) (h1 := fun _ => onesC rfl onesN) 0 rfl) (idx_lo e1630) (idx_hi e1630)) ?_
      refine ops_ex rfl (guard_none rfl) rfl rfl (ex_load1 rfl rfl Tryd.underlying5 rfl ((rd_plain (HM.brow_rd (hl := fun _ => rfl) (h1 := fun _ => onesC rfl onesN) 0 rfl) e1630) 0 _ rfl)) ?_
      refine ops_ex rfl (guard_none rfl) rfl rfl (ex_move rfl rfl) ?_
      refine ops_ex rfl (guard_none rfl) rfl rfl (ex_eql rfl rfl rfl) ?_
      refine ops_nil ?_
      refine at_then ?_
      refine run_cond (b := ((gt a1620 a1622) == x1)) rfl (fun hb1631 => ?_) (fun hb1631 => ?_)
      · replace ho1614 := cond_t hb1631 ho1614
        obtain ⟨e1632, ho1614⟩ := chk_some ho1614
        refine run_region rfl ?_
        refine ops_ex rfl (guard_none rfl) rfl rfl (ex_move rfl rfl) ?_
        refine ops_ex rfl (guard_none rfl) rfl rfl (ex_move rfl rfl) ?_
        refine ops_ex rfl (guard_none rfl) rfl rfl (ex_move rfl rfl) ?_
        refine ops_ex rfl (guard_none rfl) rfl rfl (ex_indexAddr (d := kU8) rfl rfl rfl Tryd.underlying47 tsz5 (HM.brow_rd (hl := fun _ => rfl) (h1 := fun _ => onesC rfl onesN) 0 rfl) (idx_lo e1632) (idx_hi e1632)) ?_
        refine ops_doesS rfl (guard_none rfl) rfl (does_setB rfl rfl rfl rfl tsz5 (idx_nat e1632) HM) ?_
        rintro w1633 HM
        refine ops_nil ?_
        refine at_block ?_
        refine at_then ?_
        refine run_region rfl ?_
        refine ops_ex rfl (guard_none rfl) rfl rfl (ex_move rfl rfl) ?_
        refine ops_ex rfl (guard_none rfl) rfl rfl (ex_add rfl rfl rfl) ?_
        refine ops_ex rfl (guard_none rfl) rfl rfl (ex_assign rfl rfl) ?_
        refine ops_nil ?_
        exact at_again k1627 (ρ1 := [(1, .int .u8 x1), (2, .int .u8 x2), (7, v1619), (8, .int .i64 (wrap64 (a1622 + 1)))]) (Nat.lt_succ_self _) ⟨_, _, _, ho1614, rfl, HM⟩ (Sub.cons rfl (Sub.cons rfl (Sub.cons rfl (Sub.cons rfl Sub.nil))))
      · replace ho1614 := cond_f hb1631 ho1614
        refine run_skip ?_
        refine at_block ?_
        refine at_then ?_
        refine run_region rfl ?_
        refine ops_ex rfl (guard_none rfl) rfl rfl (ex_move rfl rfl) ?_
        refine ops_ex rfl (guard_none rfl) rfl rfl (ex_add rfl rfl rfl) ?_
        refine ops_ex rfl (guard_none rfl) rfl rfl (ex_assign rfl rfl) ?_
        refine ops_nil ?_
        exact at_again k1627 (ρ1 := [(1, .int .u8 x1), (2, .int .u8 x2), (7, v1619), (8, .int .i64 (wrap64 (a1622 + 1)))]) (Nat.lt_succ_self _) ⟨_, _, _, ho1614, rfl, HM⟩ (Sub.cons rfl (Sub.cons rfl (Sub.cons rfl (Sub.cons rfl Sub.nil))))
    · replace ho1614 := cond_f hb1629 ho1614
      refine run_exit ?_
      refine at_then_exit ?_
      refine at_then_exit ?_
      refine at_block_exit ?_
      exact at_mid (ρ' := [(7, v1619)]) ⟨_, _, (Option.some.inj ho1614), rfl, HM⟩ (Sub.cons rfl Sub.nil)
  · rintro _ w1634 ⟨v1610, a1611, rfl, rfl, HM⟩
    refine run_seq ?_
    refine run_region rfl ?_
    refine ops_ex rfl (guard_none rfl) rfl rfl (ex_move rfl rfl) ?_
    refine ops_ex rfl (guard_none rfl) rfl rfl (ex_bstr (e := 5) rfl rfl Tryd.underlying47 Tryd.underlying5 Tryd.underlying9 (HM.brow_rd (hl := fun _ => rfl) (h1 := fun _ => onesC rfl onesN) 0 rfl)) ?_
    refine ops_ex rfl (guard_none rfl) rfl rfl (ex_assign rfl rfl) ?_
    refine ops_nil ?_
    refine at_then ?_
    refine run_ret ?_
    replace HM := (HM.front 0 rfl rfl).drop
    have hR := Option.some.inj H
    subst hR
    exact at_ret1 rfl rfl ⟨_, rfl, rfl, HM⟩

def spec_l3Text.l0 (x0 : Tx) : Nat → ByteArray → Int → Option ByteArray
  | 0, _, _ => none
  | k + 1, a1780, a1781 => (bif (decide (a1781 < (x0.fIns.length : Int))) then ((bif (a1781 == 0) then some (⟨#[32]⟩ : ByteArray) else some (⟨#[43]⟩ : ByteArray)).bind (fun a1805 => (chk (leB (a1780.size + a1805.size) 9223372036854775807) (chk (idxOk a1781 x0.fIns.length) (chk (idxOk a1781 x0.fIns.length) ((spec_l2Digits.f k ((gt x0.fIns a1781).fTx)).bind fun t1815 => (chk (leB ((a1780 ++ a1805).size + t1815.size) 9223372036854775807) (chk (leB (((a1780 ++ a1805) ++ t1815).size + (⟨#[58]⟩ : ByteArray).size) 9223372036854775807) ((spec_l2Digits.f k ((gt x0.fIns a1781).fAt)).bind fun t1819 => (chk (leB ((((a1780 ++ a1805) ++ t1815) ++ (⟨#[58]⟩ : ByteArray)).size + t1819.size) 9223372036854775807) (spec_l3Text.l0 x0 k ((((a1780 ++ a1805) ++ t1815) ++ (⟨#[58]⟩ : ByteArray)) ++ t1819) (wrap64 (a1781 + 1))))))))))))) else some a1780)
theorem spec_l3Text.l0_z (x0 : Tx) (a1780 : ByteArray) (a1781 : Int) : spec_l3Text.l0 x0 0 a1780 a1781 = none := rfl
theorem spec_l3Text.l0_s (x0 : Tx) (k : Nat) (a1780 : ByteArray) (a1781 : Int) : spec_l3Text.l0 x0 (k + 1) a1780 a1781 = (bif (decide (a1781 < (x0.fIns.length : Int))) then ((bif (a1781 == 0) then some (⟨#[32]⟩ : ByteArray) else some (⟨#[43]⟩ : ByteArray)).bind (fun a1805 => (chk (leB (a1780.size + a1805.size) 9223372036854775807) (chk (idxOk a1781 x0.fIns.length) (chk (idxOk a1781 x0.fIns.length) ((spec_l2Digits.f k ((gt x0.fIns a1781).fTx)).bind fun t1815 => (chk (leB ((a1780 ++ a1805).size + t1815.size) 9223372036854775807) (chk (leB (((a1780 ++ a1805) ++ t1815).size + (⟨#[58]⟩ : ByteArray).size) 9223372036854775807) ((spec_l2Digits.f k ((gt x0.fIns a1781).fAt)).bind fun t1819 => (chk (leB ((((a1780 ++ a1805) ++ t1815) ++ (⟨#[58]⟩ : ByteArray)).size + t1819.size) 9223372036854775807) (spec_l3Text.l0 x0 k ((((a1780 ++ a1805) ++ t1815) ++ (⟨#[58]⟩ : ByteArray)) ++ t1819) (wrap64 (a1781 + 1))))))))))))) else some a1780) := rfl
def spec_l3Text.l1 (x0 : Tx) : Nat → ByteArray → Int → Option ByteArray
  | 0, _, _ => none
  | k + 1, a1906, a1907 => (bif (decide (a1907 < (x0.fOuts.length : Int))) then (chk (leB (a1906.size + (⟨#[32]⟩ : ByteArray).size) 9223372036854775807) (chk (idxOk a1907 x0.fOuts.length) (chk (idxOk a1907 x0.fOuts.length) ((spec_l2Digits.f k ((gt x0.fOuts a1907).fValue)).bind fun t1939 => (chk (leB ((a1906 ++ (⟨#[32]⟩ : ByteArray)).size + t1939.size) 9223372036854775807) (chk (leB (((a1906 ++ (⟨#[32]⟩ : ByteArray)) ++ t1939).size + (⟨#[61]⟩ : ByteArray).size) 9223372036854775807) ((spec_l2Text.f k ((gt x0.fOuts a1907).fRule)).bind fun t1943 => ((spec_l3Swap.f k t1943 32 95).bind fun t1945 => (chk (leB ((((a1906 ++ (⟨#[32]⟩ : ByteArray)) ++ t1939) ++ (⟨#[61]⟩ : ByteArray)).size + t1945.size) 9223372036854775807) (spec_l3Text.l1 x0 k ((((a1906 ++ (⟨#[32]⟩ : ByteArray)) ++ t1939) ++ (⟨#[61]⟩ : ByteArray)) ++ t1945) (wrap64 (a1907 + 1)))))))))))) else some a1906)
theorem spec_l3Text.l1_z (x0 : Tx) (a1906 : ByteArray) (a1907 : Int) : spec_l3Text.l1 x0 0 a1906 a1907 = none := rfl
theorem spec_l3Text.l1_s (x0 : Tx) (k : Nat) (a1906 : ByteArray) (a1907 : Int) : spec_l3Text.l1 x0 (k + 1) a1906 a1907 = (bif (decide (a1907 < (x0.fOuts.length : Int))) then (chk (leB (a1906.size + (⟨#[32]⟩ : ByteArray).size) 9223372036854775807) (chk (idxOk a1907 x0.fOuts.length) (chk (idxOk a1907 x0.fOuts.length) ((spec_l2Digits.f k ((gt x0.fOuts a1907).fValue)).bind fun t1939 => (chk (leB ((a1906 ++ (⟨#[32]⟩ : ByteArray)).size + t1939.size) 9223372036854775807) (chk (leB (((a1906 ++ (⟨#[32]⟩ : ByteArray)) ++ t1939).size + (⟨#[61]⟩ : ByteArray).size) 9223372036854775807) ((spec_l2Text.f k ((gt x0.fOuts a1907).fRule)).bind fun t1943 => ((spec_l3Swap.f k t1943 32 95).bind fun t1945 => (chk (leB ((((a1906 ++ (⟨#[32]⟩ : ByteArray)) ++ t1939) ++ (⟨#[61]⟩ : ByteArray)).size + t1945.size) 9223372036854775807) (spec_l3Text.l1 x0 k ((((a1906 ++ (⟨#[32]⟩ : ByteArray)) ++ t1939) ++ (⟨#[61]⟩ : ByteArray)) ++ t1945) (wrap64 (a1907 + 1)))))))))))) else some a1906) := rfl
def spec_l3Text.f (k : Nat) (x0 : Tx) : Option ByteArray := (chk (idxOk x0.fKind ([(⟨#[112, 97, 121]⟩ : ByteArray), (⟨#[106, 111, 105, 110, 32]⟩ : ByteArray), (⟨#[108, 101, 97, 118, 101, 32]⟩ : ByteArray)] : List ByteArray).length) ((bif (x0.fKind != 0) then ((spec_l2Digits.f k x0.fMember).bind fun t1698 => (chk (leB ((gt ([(⟨#[112, 97, 121]⟩ : ByteArray), (⟨#[106, 111, 105, 110, 32]⟩ : ByteArray), (⟨#[108, 101, 97, 118, 101, 32]⟩ : ByteArray)] : List ByteArray) x0.fKind).size + t1698.size) 9223372036854775807) (some ((gt ([(⟨#[112, 97, 121]⟩ : ByteArray), (⟨#[106, 111, 105, 110, 32]⟩ : ByteArray), (⟨#[108, 101, 97, 118, 101, 32]⟩ : ByteArray)] : List ByteArray) x0.fKind) ++ t1698)))) else some (gt ([(⟨#[112, 97, 121]⟩ : ByteArray), (⟨#[106, 111, 105, 110, 32]⟩ : ByteArray), (⟨#[108, 101, 97, 118, 101, 32]⟩ : ByteArray)] : List ByteArray) x0.fKind)).bind (fun a1694 => ((spec_l3Text.l0 x0 k a1694 0).bind (fun a1759 => ((spec_l3Text.l1 x0 k a1759 0).bind (fun a1884 => some a1884)))))))
theorem spec_l3Text.calls {k : Nat} {x0 : Tx} {b0 f0 : Nat} {p0_0 : Value} {p0_1 : Value} {w : World} (hc0 : CellsAt w b0 f0 [.int .i64 x0.fKind, .int .i64 x0.fMember, p0_0, p0_1]) (hp0_0 : RdS kRef w p0_0 x0.fIns) (hp0_1 : RdS kOut w p0_1 x0.fOuts) {r : ByteArray} (H : spec_l3Text.f k x0 = some r) :
    Calls Tryd.prog 32 ([.pointer (some ⟨b0, f0, none⟩)] : List Value).toArray w (fun e w_ => ∃ v, e = .returned v ∧ v = (.string r) ∧ Mem w [] w_ []) := by
  have HM := Mem.start w
  refine calls_run (N := 94) Tryd.func32 rfl rfl rfl rfl ?_
  unfold spec_l3Text.f at H
  refine run_seq ?_
  refine run_region rfl ?_
  refine ops_ex rfl (guard_none rfl) rfl rfl (ex_assign rfl rfl) ?_
  refine ops_nil ?_
  refine at_then ?_
  refine run_seq ?_
  obtain ⟨e1684, H⟩ := chk_some H
  refine run_region rfl ?_
  refine ops_does rfl (guard_none rfl) rfl rfl (does_lit (e := 9) (cs := [.string (⟨#[112, 97, 121]⟩ : ByteArray), .string (⟨#[106, 111, 105, 110, 32]⟩ : ByteArray), .string (⟨#[108, 101, 97, 118, 101, 32]⟩ : ByteArray)]) (xs := ([(⟨#[112, 97, 121]⟩ : ByteArray), (⟨#[106, 111, 105, 110, 32]⟩ : ByteArray), (⟨#[108, 101, 97, 118, 101, 32]⟩ : ByteArray)] : List ByteArray)) kStr rfl rfl (fun _ => by kernel_rfl) rfl rfl (fun _ _ h => by have h' : _ = [] := h; subst h'; exact (Elems.cons (d := kStr) (f := []) ⟨rfl, rfl⟩ (Elems.cons (d := kStr) (f := []) ⟨rfl, rfl⟩ (Elems.cons (d := kStr) (f := []) ⟨rfl, rfl⟩ .nil)))) HM.emp) ?_
  rintro v1681 w1685 HM
  refine ops_ex rfl (guard_none rfl) rfl rfl (ex_move rfl rfl) ?_
  refine ops_ex rfl (guard_none rfl) rfl rfl (ex_nilCheck rfl rfl) ?_
  refine ops_ex rfl (guard_none rfl) rfl rfl (ex_fieldAddr (off' := f0) rfl rfl Tryd.underlying33 rfl tsz2 rfl) ?_
  refine ops_ex rfl (guard_none rfl) rfl rfl (ex_load1 rfl rfl Tryd.underlying2 rfl ((HM.at_ hc0) 0 _ rfl)) ?_
  refine ops_ex rfl (guard_none rfl) rfl rfl (ex_indexAddr (d := kStr) rfl rfl rfl Tryd.underlying103 tsz9 (HM.own_rd 0 rfl) (idx_lo e1684) (idx_hi e1684)) ?_
  refine ops_ex rfl (guard_none rfl) rfl rfl (ex_load1 rfl rfl Tryd.underlying9 rfl ((rd_plain (HM.own_rd 0 rfl) e1684) 0 _ rfl)) ?_
  refine ops_ex rfl (guard_none rfl) rfl rfl (ex_assign rfl rfl) ?_
  refine ops_nil ?_
  refine at_then ?_
  obtain ⟨o1695, ho1696, H⟩ := bind_some H
  refine run_mid (fun ρ_ w_ => ∃ a1694 : ByteArray, a1694 = o1695 ∧ ρ_ = [(0, .pointer (some ⟨b0, f0, none⟩)), (3, .string a1694)] ∧ Mem w [] w_ []) ?_ ?_
  · clear H
    refine run_seq ?_
    refine run_region rfl ?_
    refine ops_ex rfl (guard_none rfl) rfl rfl (ex_move rfl rfl) ?_
    refine ops_ex rfl (guard_none rfl) rfl rfl (ex_nilCheck rfl rfl) ?_
    refine ops_ex rfl (guard_none rfl) rfl rfl (ex_fieldAddr (off' := f0) rfl rfl Tryd.underlying33 rfl tsz2 rfl) ?_
    refine ops_ex rfl (guard_none rfl) rfl rfl (ex_load1 rfl rfl Tryd.underlying2 rfl ((HM.at_ hc0) 0 _ rfl)) ?_
    refine ops_ex rfl (guard_none rfl) rfl rfl (ex_neq rfl rfl rfl) ?_
    refine ops_nil ?_
    refine at_then ?_
    refine run_cond (b := (x0.fKind != 0)) rfl (fun hb1697 => ?_) (fun hb1697 => ?_)
    · replace ho1696 := cond_t hb1697 ho1696
      obtain ⟨t1698, h1699, ho1696⟩ := bind_some ho1696
      obtain ⟨e1700, ho1696⟩ := chk_some ho1696
      refine run_region rfl ?_
      refine ops_ex rfl (guard_none rfl) rfl rfl (ex_move rfl rfl) ?_
      refine ops_ex rfl (guard_none rfl) rfl rfl (ex_move rfl rfl) ?_
      refine ops_ex rfl (guard_none rfl) rfl rfl (ex_nilCheck rfl rfl) ?_
      refine ops_ex rfl (guard_none rfl) rfl rfl (ex_fieldAddr (off' := f0 + 1) rfl rfl Tryd.underlying33 rfl tsz2 rfl) ?_
      refine ops_ex rfl (guard_none rfl) rfl rfl (ex_load1 rfl rfl Tryd.underlying2 rfl ((HM.at_ hc0) 1 _ rfl)) ?_
      refine ops_does rfl (guard_none rfl) rfl rfl (does_callk rfl callok66 rfl (spec_l2Digits.calls (x0 := x0.fMember) h1699)) ?_
      rintro _ w1701 ⟨rfl, hn⟩
      replace HM : Mem w [] w1701 [own kStr 9 v1681 ([(⟨#[112, 97, 121]⟩ : ByteArray), (⟨#[106, 111, 105, 110, 32]⟩ : ByteArray), (⟨#[108, 101, 97, 118, 101, 32]⟩ : ByteArray)] : List ByteArray)] := HM.call hn
      refine ops_ex rfl (guard_none rfl) rfl rfl (ex_sadd rfl rfl rfl (leB_le e1700)) ?_
      refine ops_ex rfl (guard_none rfl) rfl rfl (ex_assign rfl rfl) ?_
      refine ops_nil ?_
      replace HM := (HM.front 0 rfl rfl).drop
      exact at_mid (ρ' := [(0, .pointer (some ⟨b0, f0, none⟩)), (3, .string ((gt ([(⟨#[112, 97, 121]⟩ : ByteArray), (⟨#[106, 111, 105, 110, 32]⟩ : ByteArray), (⟨#[108, 101, 97, 118, 101, 32]⟩ : ByteArray)] : List ByteArray) x0.fKind) ++ t1698))]) ⟨_, (Option.some.inj ho1696), rfl, HM⟩ (Sub.cons rfl (Sub.cons rfl Sub.nil))
    · replace ho1696 := cond_f hb1697 ho1696
      refine run_skip ?_
      replace HM := (HM.front 0 rfl rfl).drop
      exact at_mid (ρ' := [(0, .pointer (some ⟨b0, f0, none⟩)), (3, .string (gt ([(⟨#[112, 97, 121]⟩ : ByteArray), (⟨#[106, 111, 105, 110, 32]⟩ : ByteArray), (⟨#[108, 101, 97, 118, 101, 32]⟩ : ByteArray)] : List ByteArray) x0.fKind))]) ⟨_, (Option.some.inj ho1696), rfl, HM⟩ (Sub.cons rfl (Sub.cons rfl Sub.nil))
  · rintro _ w1702 ⟨a1694, rfl, rfl, HM⟩
    obtain ⟨o1760, ho1761, H⟩ := bind_some H
    refine run_mid (fun ρ_ w_ => ∃ a1759 : ByteArray, a1759 = o1760 ∧ ρ_ = [(0, .pointer (some ⟨b0, f0, none⟩)), (3, .string a1759)] ∧ Mem w [] w_ []) ?_ ?_
    · clear H
      refine run_seq ?_
      refine run_region rfl ?_
      refine ops_ex rfl (guard_none rfl) rfl rfl (ex_assign rfl rfl) ?_
      refine ops_nil ?_
      refine at_then ?_
      refine run_block ?_
      refine run_loop (fun k_ ρ_ w_ => ∃ a1780 : ByteArray, ∃ a1781 : Int, spec_l3Text.l0 x0 k_ a1780 a1781 = some o1760 ∧ ρ_ = [(0, .pointer (some ⟨b0, f0, none⟩)), (3, .string a1780), (4, .int .i64 a1781)] ∧ Mem w [] w_ []) k (ρ1 := [(0, .pointer (some ⟨b0, f0, none⟩)), (3, .string a1694), (4, .int .i64 0)]) ⟨_, _, ho1761, rfl, HM⟩ (Sub.cons rfl (Sub.cons rfl (Sub.cons rfl Sub.nil))) ?_
      clear HM ho1761
      rintro k1800 _ w1801 ⟨a1780, a1781, ho1761, rfl, HM⟩
      obtain _ | k1800 := k1800
      · exact nomatch ((spec_l3Text.l0_z x0 a1780 a1781).symm.trans ho1761)
      replace ho1761 := (spec_l3Text.l0_s x0 k1800 a1780 a1781).symm.trans ho1761
      refine run_seq ?_
      refine run_seq ?_
      refine run_region rfl ?_
      refine ops_ex rfl (guard_none rfl) rfl rfl (ex_move rfl rfl) ?_
      refine ops_ex rfl (guard_none rfl) rfl rfl (ex_move rfl rfl) ?_
      refine ops_ex rfl (guard_none rfl) rfl rfl (ex_nilCheck rfl rfl) ?_
      refine ops_ex rfl (guard_none rfl) rfl rfl (ex_fieldAddr (off' := f0 + 2) rfl rfl Tryd.underlying33 rfl tsz30 rfl) ?_
      refine ops_ex rfl (guard_none rfl) rfl rfl (ex_load1 rfl rfl Tryd.underlying30 rfl ((HM.at_ hc0) 2 _ rfl)) ?_
      refine ops_ex rfl (guard_none rfl) rfl rfl (ex_len (d := kRef) (xs := x0.fIns) rfl rfl Tryd.underlying30 hp0_0) ?_
      refine ops_ex rfl (guard_none rfl) rfl rfl (ex_lss rfl rfl rfl) ?_
      refine ops_nil ?_
      refine at_then ?_
      refine run_cond (b := (decide (a1781 < (x0.fIns.length : Int)))) rfl (fun hb1802 => ?_) (fun hb1802 => ?_)
      · replace ho1761 := cond_t hb1802 ho1761
        refine run_skip ?_
        refine at_then ?_
        refine run_seq ?_
        refine run_block ?_
        refine run_seq ?_
        refine run_region rfl ?_
        refine ops_ex rfl (guard_none rfl) rfl rfl (ex_assign rfl rfl) ?_
        refine ops_nil ?_
        refine at_then ?_
        obtain ⟨o1806, ho1807, ho1761⟩ := bind_some ho1761
        refine run_mid (fun ρ_ w_ => ∃ a1805 : ByteArray, a1805 = o1806 ∧ ρ_ = [(0, .pointer (some ⟨b0, f0, none⟩)), (3, .string a1780), (4, .int .i64 a1781), (5, .string a1805)] ∧ Mem w [] w_ []) ?_ ?_
        · clear ho1761
          refine run_seq ?_
          refine run_region rfl ?_
          refine ops_ex rfl (guard_none rfl) rfl rfl (ex_move rfl rfl) ?_
          refine ops_ex rfl (guard_none rfl) rfl rfl (ex_eql rfl rfl rfl) ?_
          refine ops_nil ?_
          refine at_then ?_
          refine run_cond (b := (a1781 == 0)) rfl (fun hb1808 => ?_) (fun hb1808 => ?_)
          · replace ho1807 := cond_t hb1808 ho1807
            refine run_region rfl ?_
            refine ops_ex rfl (guard_none rfl) rfl rfl (ex_assign rfl rfl) ?_
            refine ops_nil ?_
            exact at_mid (ρ' := [(0, .pointer (some ⟨b0, f0, none⟩)), (3, .string a1780), (4, .int .i64 a1781), (5, .string (⟨#[32]⟩ : ByteArray))]) ⟨_, (Option.some.inj ho1807), rfl, HM⟩ (Sub.cons rfl (Sub.cons rfl (Sub.cons rfl (Sub.cons rfl Sub.nil))))
          · replace ho1807 := cond_f hb1808 ho1807
            refine run_skip ?_
            exact at_mid (ρ' := [(0, .pointer (some ⟨b0, f0, none⟩)), (3, .string a1780), (4, .int .i64 a1781), (5, .string (⟨#[43]⟩ : ByteArray))]) ⟨_, (Option.some.inj ho1807), rfl, HM⟩ (Sub.cons rfl (Sub.cons rfl (Sub.cons rfl (Sub.cons rfl Sub.nil))))
        · rintro _ w1809 ⟨a1805, rfl, rfl, HM⟩
          obtain ⟨e1810, ho1761⟩ := chk_some ho1761
          obtain ⟨e1811, ho1761⟩ := chk_some ho1761
          obtain ⟨e1813, ho1761⟩ := chk_some ho1761
          obtain ⟨t1815, h1816, ho1761⟩ := bind_some ho1761
          obtain ⟨e1817, ho1761⟩ := chk_some ho1761
          obtain ⟨e1818, ho1761⟩ := chk_some ho1761
          obtain ⟨t1819, h1820, ho1761⟩ := bind_some ho1761
          obtain ⟨e1821, ho1761⟩ := chk_some ho1761
          refine run_drawf (fun w_ => Mem w [] w_ []) [(0, true), (1, true), (2, true), (3, true), (4, true), (5, true), (6, true), (7, true), (8, true), (9, true), (10, true), (14, true), (15, true), (16, true), (17, true), (18, true), (19, true), (20, true), (21, true), (11, false), (12, true), (13, true), (22, false), (23, true), (24, true)] mixed rfl rfl (by kernel_rfl) ?_
          replace HM := HM.grow (fr_drew _)
          have hS := Mem.suf (M := []) HM
          refine drwp_take rfl (guard_none rfl) rfl rfl (fun w_ hS_ => (ex_move rfl rfl)) hS ?_
          refine drwp_take rfl (guard_none rfl) rfl rfl (fun w_ hS_ => (ex_move rfl rfl)) hS ?_
          refine drwp_take rfl (guard_none rfl) rfl rfl (fun w_ hS_ => (ex_sadd rfl rfl rfl (leB_le e1810))) hS ?_
          refine drwp_take rfl (guard_none rfl) rfl rfl (fun w_ hS_ => (ex_move rfl rfl)) hS ?_
          refine drwp_take rfl (guard_none rfl) rfl rfl (fun w_ hS_ => (ex_nilCheck rfl rfl)) hS ?_
          refine drwp_take rfl (guard_none rfl) rfl rfl (fun w_ hS_ => (ex_fieldAddr (off' := f0 + 2) rfl rfl Tryd.underlying33 rfl tsz30 rfl)) hS ?_
          refine drwp_take rfl (guard_none rfl) rfl rfl (fun w_ hS_ => (ex_load1 rfl rfl Tryd.underlying30 rfl ((hS_.at_ hc0) 2 _ rfl))) hS ?_
          refine drwp_take rfl (guard_none rfl) rfl rfl (fun w_ hS_ => (ex_move rfl rfl)) hS ?_
          have hc1812 : CellsAt _ (sb p0_0) (so p0_0 + (a1781).toNat * 2) [(.int .i64 ((gt x0.fIns a1781).fTx)), (.int .i64 ((gt x0.fIns a1781).fAt))] := rd_plain hp0_0 e1811
          refine drwp_take rfl (guard_none rfl) rfl rfl (fun w_ hS_ => (ex_indexAddr (d := kRef) rfl rfl rfl Tryd.underlying30 tsz101 hp0_0 (idx_lo e1811) (idx_hi e1811))) hS ?_
          refine drwp_take rfl (guard_none rfl) rfl rfl (fun w_ hS_ => (ex_fieldAddr (off' := so p0_0 + (a1781).toNat * 2) rfl rfl Tryd.underlying101 rfl tsz2 rfl)) hS ?_
          refine drwp_take rfl (guard_none rfl) rfl rfl (fun w_ hS_ => (ex_load1 rfl rfl Tryd.underlying2 rfl ((hS_.at_ hc1812) 0 _ rfl))) hS ?_
          refine drwp_take rfl (guard_none rfl) rfl rfl (fun w_ hS_ => (ex_move rfl rfl)) hS ?_
          refine drwp_take rfl (guard_none rfl) rfl rfl (fun w_ hS_ => (ex_nilCheck rfl rfl)) hS ?_
          refine drwp_take rfl (guard_none rfl) rfl rfl (fun w_ hS_ => (ex_fieldAddr (off' := f0 + 2) rfl rfl Tryd.underlying33 rfl tsz30 rfl)) hS ?_
          refine drwp_take rfl (guard_none rfl) rfl rfl (fun w_ hS_ => (ex_load1 rfl rfl Tryd.underlying30 rfl ((hS_.at_ hc0) 2 _ rfl))) hS ?_
          refine drwp_take rfl (guard_none rfl) rfl rfl (fun w_ hS_ => (ex_move rfl rfl)) hS ?_
          have hc1814 : CellsAt _ (sb p0_0) (so p0_0 + (a1781).toNat * 2) [(.int .i64 ((gt x0.fIns a1781).fTx)), (.int .i64 ((gt x0.fIns a1781).fAt))] := rd_plain hp0_0 e1813
          refine drwp_take rfl (guard_none rfl) rfl rfl (fun w_ hS_ => (ex_indexAddr (d := kRef) rfl rfl rfl Tryd.underlying30 tsz101 hp0_0 (idx_lo e1813) (idx_hi e1813))) hS ?_
          refine drwp_take rfl (guard_none rfl) rfl rfl (fun w_ hS_ => (ex_fieldAddr (off' := so p0_0 + (a1781).toNat * 2 + 1) rfl rfl Tryd.underlying101 rfl tsz2 rfl)) hS ?_
          refine drwp_take rfl (guard_none rfl) rfl rfl (fun w_ hS_ => (ex_load1 rfl rfl Tryd.underlying2 rfl ((hS_.at_ hc1814) 1 _ rfl))) hS ?_
          refine drwp_one rfl (guard_none rfl) rfl rfl (does_callk rfl callok66 rfl (spec_l2Digits.calls (x0 := (gt x0.fIns a1781).fTx) h1816)) ?_
          rintro _ w1822 ⟨rfl, hn⟩
          replace HM : Mem w [] w1822 [] := HM.call hn
          refine ⟨Mem.suf (M := []) HM, ?_⟩
          have hS := Mem.suf (M := []) HM
          refine drwp_take rfl (guard_none rfl) rfl rfl (fun w_ hS_ => (ex_sadd rfl rfl rfl (leB_le e1817))) hS ?_
          refine drwp_take rfl (guard_none rfl) rfl rfl (fun w_ hS_ => (ex_sadd rfl rfl rfl (leB_le e1818))) hS ?_
          refine drwp_one rfl (guard_none rfl) rfl rfl (does_callk rfl callok66 rfl (spec_l2Digits.calls (x0 := (gt x0.fIns a1781).fAt) h1820)) ?_
          rintro _ w1823 ⟨rfl, hn⟩
          replace HM : Mem w [] w1823 [] := HM.call hn
          refine ⟨Mem.suf (M := []) HM, ?_⟩
          have hS := Mem.suf (M := []) HM
          refine drwp_take rfl (guard_none rfl) rfl rfl (fun w_ hS_ => (ex_sadd rfl rfl rfl (leB_le e1821))) hS ?_
          refine drwp_take rfl (guard_none rfl) rfl rfl (fun w_ hS_ => (ex_assign rfl rfl)) hS ?_
          refine drwp_done ?_
          refine at_block ?_
          refine at_then ?_
          refine run_region rfl ?_
          refine ops_ex rfl (guard_none rfl) rfl rfl (ex_move rfl rfl) ?_
          refine ops_ex rfl (guard_none rfl) rfl rfl (ex_add rfl rfl rfl) ?_
          refine ops_ex rfl (guard_none rfl) rfl rfl (ex_assign rfl rfl) ?_
          refine ops_nil ?_
          exact at_again k1800 (ρ1 := [(0, .pointer (some ⟨b0, f0, none⟩)), (3, .string ((((a1780 ++ a1805) ++ t1815) ++ (⟨#[58]⟩ : ByteArray)) ++ t1819)), (4, .int .i64 (wrap64 (a1781 + 1)))]) (Nat.lt_succ_self _) ⟨_, _, ho1761, rfl, HM⟩ (Sub.cons rfl (Sub.cons rfl (Sub.cons rfl Sub.nil)))
      · replace ho1761 := cond_f hb1802 ho1761
        refine run_exit ?_
        refine at_then_exit ?_
        refine at_then_exit ?_
        refine at_block_exit ?_
        exact at_mid (ρ' := [(0, .pointer (some ⟨b0, f0, none⟩)), (3, .string a1780)]) ⟨_, (Option.some.inj ho1761), rfl, HM⟩ (Sub.cons rfl (Sub.cons rfl Sub.nil))
    · rintro _ w1824 ⟨a1759, rfl, rfl, HM⟩
      obtain ⟨o1885, ho1886, H⟩ := bind_some H
      refine run_mid (fun ρ_ w_ => ∃ a1884 : ByteArray, a1884 = o1885 ∧ ρ_ = [(3, .string a1884)] ∧ Mem w [] w_ []) ?_ ?_
      · clear H
        refine run_seq ?_
        refine run_region rfl ?_
        refine ops_ex rfl (guard_none rfl) rfl rfl (ex_assign rfl rfl) ?_
        refine ops_nil ?_
        refine at_then ?_
        refine run_block ?_
        refine run_loop (fun k_ ρ_ w_ => ∃ a1906 : ByteArray, ∃ a1907 : Int, spec_l3Text.l1 x0 k_ a1906 a1907 = some o1885 ∧ ρ_ = [(0, .pointer (some ⟨b0, f0, none⟩)), (3, .string a1906), (6, .int .i64 a1907)] ∧ Mem w [] w_ []) k (ρ1 := [(0, .pointer (some ⟨b0, f0, none⟩)), (3, .string a1759), (6, .int .i64 0)]) ⟨_, _, ho1886, rfl, HM⟩ (Sub.cons rfl (Sub.cons rfl (Sub.cons rfl Sub.nil))) ?_
        clear HM ho1886
        rintro k1927 _ w1928 ⟨a1906, a1907, ho1886, rfl, HM⟩
        obtain _ | k1927 := k1927
        · exact nomatch ((spec_l3Text.l1_z x0 a1906 a1907).symm.trans ho1886)
        replace ho1886 := (spec_l3Text.l1_s x0 k1927 a1906 a1907).symm.trans ho1886
        refine run_seq ?_
        refine run_seq ?_
        refine run_region rfl ?_
        refine ops_ex rfl (guard_none rfl) rfl rfl (ex_move rfl rfl) ?_
        refine ops_ex rfl (guard_none rfl) rfl rfl (ex_move rfl rfl) ?_
        refine ops_ex rfl (guard_none rfl) rfl rfl (ex_nilCheck rfl rfl) ?_
        refine ops_ex rfl (guard_none rfl) rfl rfl (ex_fieldAddr (off' := f0 + 3) rfl rfl Tryd.underlying33 rfl tsz31 rfl) ?_
        refine ops_ex rfl (guard_none rfl) rfl rfl (ex_load1 rfl rfl Tryd.underlying31 rfl ((HM.at_ hc0) 3 _ rfl)) ?_
        refine ops_ex rfl (guard_none rfl) rfl rfl (ex_len (d := kOut) (xs := x0.fOuts) rfl rfl Tryd.underlying31 hp0_1) ?_
        refine ops_ex rfl (guard_none rfl) rfl rfl (ex_lss rfl rfl rfl) ?_
        refine ops_nil ?_
        refine at_then ?_
        refine run_cond (b := (decide (a1907 < (x0.fOuts.length : Int)))) rfl (fun hb1929 => ?_) (fun hb1929 => ?_)
        · replace ho1886 := cond_t hb1929 ho1886
          refine run_skip ?_
          refine at_then ?_
          refine run_seq ?_
          refine run_block ?_
          obtain ⟨e1930, ho1886⟩ := chk_some ho1886
          obtain ⟨e1931, ho1886⟩ := chk_some ho1886
          obtain ⟨e1935, ho1886⟩ := chk_some ho1886
          obtain ⟨t1939, h1940, ho1886⟩ := bind_some ho1886
          obtain ⟨e1941, ho1886⟩ := chk_some ho1886
          obtain ⟨e1942, ho1886⟩ := chk_some ho1886
          obtain ⟨t1943, h1944, ho1886⟩ := bind_some ho1886
          obtain ⟨t1945, h1946, ho1886⟩ := bind_some ho1886
          obtain ⟨e1947, ho1886⟩ := chk_some ho1886
          refine run_drawf (fun w_ => Mem w [] w_ []) [(0, true), (1, true), (2, true), (3, true), (4, true), (5, true), (6, true), (7, true), (8, true), (9, true), (13, true), (14, true), (15, true), (16, true), (17, true), (18, true), (19, true), (10, false), (11, true), (12, true), (20, false), (21, false), (22, true), (23, true)] mixed rfl rfl (by kernel_rfl) ?_
          replace HM := HM.grow (fr_drew _)
          have hS := Mem.suf (M := []) HM
          refine drwp_take rfl (guard_none rfl) rfl rfl (fun w_ hS_ => (ex_move rfl rfl)) hS ?_
          refine drwp_take rfl (guard_none rfl) rfl rfl (fun w_ hS_ => (ex_sadd rfl rfl rfl (leB_le e1930))) hS ?_
          refine drwp_take rfl (guard_none rfl) rfl rfl (fun w_ hS_ => (ex_move rfl rfl)) hS ?_
          refine drwp_take rfl (guard_none rfl) rfl rfl (fun w_ hS_ => (ex_nilCheck rfl rfl)) hS ?_
          refine drwp_take rfl (guard_none rfl) rfl rfl (fun w_ hS_ => (ex_fieldAddr (off' := f0 + 3) rfl rfl Tryd.underlying33 rfl tsz31 rfl)) hS ?_
          refine drwp_take rfl (guard_none rfl) rfl rfl (fun w_ hS_ => (ex_load1 rfl rfl Tryd.underlying31 rfl ((hS_.at_ hc0) 3 _ rfl))) hS ?_
          refine drwp_take rfl (guard_none rfl) rfl rfl (fun w_ hS_ => (ex_move rfl rfl)) hS ?_
          obtain ⟨kv1933, hc1932, hk1934⟩ : ∃ u, CellsAt _ (sb p0_1) (so p0_1 + (a1907).toNat * 4) [(.int .i64 ((gt x0.fOuts a1907).fValue)), u, (.int .i64 ((gt x0.fOuts a1907).fRule.fNeed)), (.int .i64 ((gt x0.fOuts a1907).fRule.fAfter))] ∧ RdS kInt _ u ((gt x0.fOuts a1907).fRule.fKeys) := rd_with1 hp0_1 e1931
          refine drwp_take rfl (guard_none rfl) rfl rfl (fun w_ hS_ => (ex_indexAddr (d := kOut) rfl rfl rfl Tryd.underlying31 tsz106 hp0_1 (idx_lo e1931) (idx_hi e1931))) hS ?_
          refine drwp_take rfl (guard_none rfl) rfl rfl (fun w_ hS_ => (ex_fieldAddr (off' := so p0_1 + (a1907).toNat * 4) rfl rfl Tryd.underlying106 rfl tsz2 rfl)) hS ?_
          refine drwp_take rfl (guard_none rfl) rfl rfl (fun w_ hS_ => (ex_load1 rfl rfl Tryd.underlying2 rfl ((hS_.at_ hc1932) 0 _ rfl))) hS ?_
          refine drwp_take rfl (guard_none rfl) rfl rfl (fun w_ hS_ => (ex_move rfl rfl)) hS ?_
          refine drwp_take rfl (guard_none rfl) rfl rfl (fun w_ hS_ => (ex_nilCheck rfl rfl)) hS ?_
          refine drwp_take rfl (guard_none rfl) rfl rfl (fun w_ hS_ => (ex_fieldAddr (off' := f0 + 3) rfl rfl Tryd.underlying33 rfl tsz31 rfl)) hS ?_
          refine drwp_take rfl (guard_none rfl) rfl rfl (fun w_ hS_ => (ex_load1 rfl rfl Tryd.underlying31 rfl ((hS_.at_ hc0) 3 _ rfl))) hS ?_
          refine drwp_take rfl (guard_none rfl) rfl rfl (fun w_ hS_ => (ex_move rfl rfl)) hS ?_
          obtain ⟨kv1937, hc1936, hk1938⟩ : ∃ u, CellsAt _ (sb p0_1) (so p0_1 + (a1907).toNat * 4) [(.int .i64 ((gt x0.fOuts a1907).fValue)), u, (.int .i64 ((gt x0.fOuts a1907).fRule.fNeed)), (.int .i64 ((gt x0.fOuts a1907).fRule.fAfter))] ∧ RdS kInt _ u ((gt x0.fOuts a1907).fRule.fKeys) := rd_with1 hp0_1 e1935
          refine drwp_take rfl (guard_none rfl) rfl rfl (fun w_ hS_ => (ex_indexAddr (d := kOut) rfl rfl rfl Tryd.underlying31 tsz106 hp0_1 (idx_lo e1935) (idx_hi e1935))) hS ?_
          refine drwp_take rfl (guard_none rfl) rfl rfl (fun w_ hS_ => (ex_fieldAddr (off' := so p0_1 + (a1907).toNat * 4 + 1) rfl rfl Tryd.underlying106 rfl tsz40 rfl)) hS ?_
          refine drwp_one rfl (guard_none rfl) rfl rfl (does_callk rfl callok66 rfl (spec_l2Digits.calls (x0 := (gt x0.fOuts a1907).fValue) h1940)) ?_
          rintro _ w1948 ⟨rfl, hn⟩
          replace HM : Mem w [] w1948 [] := HM.call hn
          refine ⟨Mem.suf (M := []) HM, ?_⟩
          have hS := Mem.suf (M := []) HM
          refine drwp_take rfl (guard_none rfl) rfl rfl (fun w_ hS_ => (ex_sadd rfl rfl rfl (leB_le e1941))) hS ?_
          refine drwp_take rfl (guard_none rfl) rfl rfl (fun w_ hS_ => (ex_sadd rfl rfl rfl (leB_le e1942))) hS ?_
          refine drwp_one rfl (guard_none rfl) rfl rfl (does_callk rfl callok68 rfl (spec_l2Text.calls (x0 := (gt x0.fOuts a1907).fRule) (CellsAt.sub (HM.at_ hc1936) 1 3 rfl) (HM.rd hk1938) h1944)) ?_
          rintro _ w1949 ⟨rfl, hn⟩
          replace HM : Mem w [] w1949 [] := HM.call hn
          refine ⟨Mem.suf (M := []) HM, ?_⟩
          have hS := Mem.suf (M := []) HM
          refine drwp_one rfl (guard_none rfl) rfl rfl (does_callk rfl callok67 rfl (spec_l3Swap.calls (x0 := t1943) (x1 := 32) (x2 := 95) h1946)) ?_
          rintro _ w1950 ⟨rfl, hn⟩
          replace HM : Mem w [] w1950 [] := HM.call hn
          refine ⟨Mem.suf (M := []) HM, ?_⟩
          have hS := Mem.suf (M := []) HM
          refine drwp_take rfl (guard_none rfl) rfl rfl (fun w_ hS_ => (ex_sadd rfl rfl rfl (leB_le e1947))) hS ?_
          refine drwp_take rfl (guard_none rfl) rfl rfl (fun w_ hS_ => (ex_assign rfl rfl)) hS ?_
          refine drwp_done ?_
          refine at_block ?_
          refine at_then ?_
          refine run_region rfl ?_
          refine ops_ex rfl (guard_none rfl) rfl rfl (ex_move rfl rfl) ?_
          refine ops_ex rfl (guard_none rfl) rfl rfl (ex_add rfl rfl rfl) ?_
          refine ops_ex rfl (guard_none rfl) rfl rfl (ex_assign rfl rfl) ?_
          refine ops_nil ?_
          exact at_again k1927 (ρ1 := [(0, .pointer (some ⟨b0, f0, none⟩)), (3, .string ((((a1906 ++ (⟨#[32]⟩ : ByteArray)) ++ t1939) ++ (⟨#[61]⟩ : ByteArray)) ++ t1945)), (6, .int .i64 (wrap64 (a1907 + 1)))]) (Nat.lt_succ_self _) ⟨_, _, ho1886, rfl, HM⟩ (Sub.cons rfl (Sub.cons rfl (Sub.cons rfl Sub.nil)))
        · replace ho1886 := cond_f hb1929 ho1886
          refine run_exit ?_
          refine at_then_exit ?_
          refine at_then_exit ?_
          refine at_block_exit ?_
          exact at_mid (ρ' := [(3, .string a1906)]) ⟨_, (Option.some.inj ho1886), rfl, HM⟩ (Sub.cons rfl Sub.nil)
      · rintro _ w1951 ⟨a1884, rfl, rfl, HM⟩
        refine run_seq ?_
        refine run_region rfl ?_
        refine ops_ex rfl (guard_none rfl) rfl rfl (ex_move rfl rfl) ?_
        refine ops_ex rfl (guard_none rfl) rfl rfl (ex_assign rfl rfl) ?_
        refine ops_nil ?_
        refine at_then ?_
        refine run_ret ?_
        have hR := Option.some.inj H
        subst hR
        exact at_ret1 rfl rfl ⟨_, rfl, rfl, HM⟩
end Go.Proofs.YtcpacdbdehphkaaDoor.Zk
