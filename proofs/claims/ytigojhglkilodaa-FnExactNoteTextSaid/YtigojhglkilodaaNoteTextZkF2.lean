/- What functions of the program compute, each as a plain function, and that they do. Conditions: as each theorem states them. -/
import Derived.Test.YtigojhglkilodaaNoteTextZkF1
namespace Go.Proofs.Ytigojhglkilodaa.Zk
open Go Go.RowKit Go.IntWalk Go.Proofs
set_option linter.unusedVariables false
set_option linter.unusedSimpArgs false
set_option maxRecDepth 100000
set_option maxHeartbeats 4000000
def impl_Ledger_idOf.f (k : Nat) (x0 : Ledger) (x1 : ByteArray) : Option Int := ((slices_Index_string.f k x0.fTexts x1).bind fun t1617 => some (wrap64 (t1617 + 1)))
theorem impl_Ledger_idOf.calls {k : Nat} {x0 : Ledger} {x1 : ByteArray} {p0_0 : Value} {p0_1 : Value} {w : World} (hp0_0 : RdS kStr w p0_0 x0.fTexts) (hp0_1 : RdS kSign w p0_1 x0.fSigns) {r : Int} (H : impl_Ledger_idOf.f k x0 x1 = some r) :
    Calls Try.prog 64 ([.agg #[p0_0, p0_1], .string x1] : List Value).toArray w (fun e w_ => ∃ v, e = .returned v ∧ v = (.int .i64 r) ∧ Mem w [] w_ []) := by
  have HM := Mem.start w
  refine calls_run (N := 10) Try.func64 rfl rfl rfl rfl ?_
  unfold impl_Ledger_idOf.f at H
  refine run_seq ?_
  refine run_region rfl ?_
  refine ops_does rfl (guard_none rfl) rfl rfl (does_box (cs := [p0_0, p0_1]) rfl rfl rfl HM) ?_
  rintro _ w1616 ⟨b1613, rfl, HM⟩
  refine ops_ex rfl (guard_none rfl) rfl rfl (ex_assign rfl rfl) ?_
  refine ops_nil ?_
  refine at_then ?_
  refine run_seq ?_
  obtain ⟨t1617, h1618, H⟩ := bind_some H
  refine run_region rfl ?_
  refine ops_ex rfl (guard_none rfl) rfl rfl (ex_fieldAddr (off' := 0) rfl rfl Try.underlying29 rfl tsz22 rfl) ?_
  refine ops_ex rfl (guard_none rfl) rfl rfl (ex_load1 rfl rfl Try.underlying22 rfl ((HM.box_at 0 rfl) 0 _ rfl)) ?_
  refine ops_ex rfl (guard_none rfl) rfl rfl (ex_move rfl rfl) ?_
  refine ops_does rfl (guard_none rfl) rfl rfl (does_callk rfl callok114 rfl (slices_Index_string.calls (x0 := x0.fTexts) (x1 := x1) (HM.rd hp0_0) h1618)) ?_
  rintro _ w1619 ⟨rfl, hn⟩
  replace HM : Mem w [] w1619 [box b1613 29 [p0_0, p0_1]] := HM.call hn
  refine ops_ex rfl (guard_none rfl) rfl rfl (ex_add rfl rfl rfl) ?_
  refine ops_ex rfl (guard_none rfl) rfl rfl (ex_assign rfl rfl) ?_
  refine ops_nil ?_
  refine at_then ?_
  refine run_ret ?_
  replace HM := (HM.front 0 rfl rfl).drop
  have hR := Option.some.inj H
  subst hR
  exact at_ret1 rfl rfl ⟨_, rfl, rfl, HM⟩

def slices_Clone_string.f (k : Nat) (x0 : List ByteArray) : Option ((List ByteArray)) := (chk (leB ((([] : List ByteArray).length + x0.length) * 16) 140737488355328) (some (([] : List ByteArray) ++ x0)))
theorem slices_Clone_string.calls {k : Nat} {x0 : List ByteArray} {p0 : Value} {w : World} (hp0 : RdS kStr w p0 x0) {r : (List ByteArray)} (H : slices_Clone_string.f k x0 = some r) :
    Calls Try.prog 115 ([p0] : List Value).toArray w (fun e w_ => ∃ v, e = .returned v ∧ ∃ u0 : Value, v = u0 ∧ Mem w [] w_ [own kStr 9 u0 r]) := by
  have HM := Mem.start w
  refine calls_run (N := 8) Try.func115 rfl rfl rfl rfl ?_
  unfold slices_Clone_string.f at H
  refine run_seq ?_
  refine run_region rfl ?_
  refine ops_ex rfl (guard_none rfl) rfl rfl (ex_assign rfl rfl) ?_
  refine ops_nil ?_
  refine at_then ?_
  refine run_seq ?_
  refine run_seq ?_
  refine run_region rfl ?_
  refine ops_ex rfl (guard_none rfl) rfl rfl (ex_move rfl rfl) ?_
  refine ops_exE rfl (guard_none rfl) rfl rfl (ex_isnil rfl rfl rfl Try.underlying22 hp0) ?_
  rintro _ ⟨b1637, rfl, hb1638⟩
  refine ops_nil ?_
  refine at_then ?_
  refine run_cond (b := b1637) rfl (fun hb1639 => ?_) (fun hb1639 => ?_)
  · have hx_ := hb1638 hb1639
    subst hx_
    obtain ⟨_, H⟩ := chk_some H
    replace H : some ([] : List ByteArray) = r := H
    refine run_seq ?_
    refine run_region rfl ?_
    refine ops_ex rfl (guard_none rfl) rfl rfl (ex_assign rfl rfl) ?_
    refine ops_nil ?_
    refine at_then ?_
    refine run_ret ?_
    refine at_then_ret ?_
    replace HM := HM.empty kStr 9 none
    have hR := Option.some.inj H
    subst hR
    exact at_ret1 rfl rfl ⟨_, rfl, _, rfl, HM⟩
  · skip
    refine run_skip ?_
    refine at_then ?_
    refine run_seq ?_
    obtain ⟨e1643, H⟩ := chk_some H
    refine run_region rfl ?_
    refine ops_does rfl (guard_none rfl) rfl rfl (does_lit (e := 9) (cs := []) (xs := ([] : List ByteArray)) kStr rfl rfl (fun _ => by kernel_rfl) rfl rfl (fun _ _ h => by have h' : _ = [] := h; subst h'; exact .nil) HM.emp) ?_
    rintro v1640 w1646 HM
    refine ops_ex rfl (guard_none rfl) rfl rfl (ex_move rfl rfl) ?_
    refine ops_does rfl (guard_none rfl) rfl rfl (does_appendR kStr flat_plain rfl rfl rfl Try.underlying22 tsz9 rfl tby9 tz9 rfl rfl (leB_le e1643) (HM.rd hp0) HM) ?_
    rintro v1644 w1647 HM
    refine ops_ex rfl (guard_none rfl) rfl rfl (ex_assign rfl rfl) ?_
    refine ops_nil ?_
    refine at_then ?_
    refine run_ret ?_
    have hR := Option.some.inj H
    subst hR
    exact at_ret1 rfl rfl ⟨_, rfl, _, rfl, HM⟩

def slices_Clone_impl_Sign.f (k : Nat) (x0 : List Sign) : Option ((List Sign)) := (chk (leB ((([] : List Sign).length + x0.length) * 16) 140737488355328) (some (([] : List Sign) ++ x0)))
theorem slices_Clone_impl_Sign.calls {k : Nat} {x0 : List Sign} {p0 : Value} {w : World} (hp0 : RdS kSign w p0 x0) {r : (List Sign)} (H : slices_Clone_impl_Sign.f k x0 = some r) :
    Calls Try.prog 116 ([p0] : List Value).toArray w (fun e w_ => ∃ v, e = .returned v ∧ ∃ u0 : Value, v = u0 ∧ Mem w [] w_ [own kSign 161 u0 r]) := by
  have HM := Mem.start w
  refine calls_run (N := 8) Try.func116 rfl rfl rfl rfl ?_
  unfold slices_Clone_impl_Sign.f at H
  refine run_seq ?_
  refine run_region rfl ?_
  refine ops_ex rfl (guard_none rfl) rfl rfl (ex_assign rfl rfl) ?_
  refine ops_nil ?_
  refine at_then ?_
  refine run_seq ?_
  refine run_seq ?_
  refine run_region rfl ?_
  refine ops_ex rfl (guard_none rfl) rfl rfl (ex_move rfl rfl) ?_
  refine ops_exE rfl (guard_none rfl) rfl rfl (ex_isnil rfl rfl rfl Try.underlying27 hp0) ?_
  rintro _ ⟨b1662, rfl, hb1663⟩
  refine ops_nil ?_
  refine at_then ?_
  refine run_cond (b := b1662) rfl (fun hb1664 => ?_) (fun hb1664 => ?_)
  · have hx_ := hb1663 hb1664
    subst hx_
    obtain ⟨_, H⟩ := chk_some H
    replace H : some ([] : List Sign) = r := H
    refine run_seq ?_
    refine run_region rfl ?_
    refine ops_ex rfl (guard_none rfl) rfl rfl (ex_assign rfl rfl) ?_
    refine ops_nil ?_
    refine at_then ?_
    refine run_ret ?_
    refine at_then_ret ?_
    replace HM := HM.empty kSign 161 none
    have hR := Option.some.inj H
    subst hR
    exact at_ret1 rfl rfl ⟨_, rfl, _, rfl, HM⟩
  · skip
    refine run_skip ?_
    refine at_then ?_
    refine run_seq ?_
    obtain ⟨e1668, H⟩ := chk_some H
    refine run_region rfl ?_
    refine ops_does rfl (guard_none rfl) rfl rfl (does_lit (e := 161) (cs := []) (xs := ([] : List Sign)) kSign rfl rfl (fun _ => by kernel_rfl) rfl rfl (fun _ _ h => by have h' : _ = [] := h; subst h'; exact .nil) HM.emp) ?_
    rintro v1665 w1671 HM
    refine ops_ex rfl (guard_none rfl) rfl rfl (ex_move rfl rfl) ?_
    refine ops_does rfl (guard_none rfl) rfl rfl (does_appendR kSign flat_plain rfl rfl rfl Try.underlying27 tsz161 rfl tby161 tz161 rfl rfl (leB_le e1668) (HM.rd hp0) HM) ?_
    rintro v1669 w1672 HM
    refine ops_ex rfl (guard_none rfl) rfl rfl (ex_assign rfl rfl) ?_
    refine ops_nil ?_
    refine at_then ?_
    refine run_ret ?_
    have hR := Option.some.inj H
    subst hR
    exact at_ret1 rfl rfl ⟨_, rfl, _, rfl, HM⟩

def impl_ownLedger.f (k : Nat) (x0 : Ledger) : Option Ledger := ((slices_Clone_string.f k x0.fTexts).bind fun t1686 => ((slices_Clone_impl_Sign.f k x0.fSigns).bind fun t1690 => some (⟨t1686, t1690⟩ : Ledger)))
theorem impl_ownLedger.calls {k : Nat} {x0 : Ledger} {p0_0 : Value} {p0_1 : Value} {w : World} (hp0_0 : RdS kStr w p0_0 x0.fTexts) (hp0_1 : RdS kSign w p0_1 x0.fSigns) {r : Ledger} (H : impl_ownLedger.f k x0 = some r) :
    Calls Try.prog 65 ([.agg #[p0_0, p0_1]] : List Value).toArray w (fun e w_ => ∃ v, e = .returned v ∧ ∃ u0 : Value, ∃ u1 : Value, v = (.agg #[u0, u1]) ∧ Mem w [] w_ [own kStr 9 u0 r.fTexts, own kSign 161 u1 r.fSigns]) := by
  have HM := Mem.start w
  refine calls_run (N := 10) Try.func65 rfl rfl rfl rfl ?_
  unfold impl_ownLedger.f at H
  refine run_seq ?_
  refine run_region rfl ?_
  refine ops_does rfl (guard_none rfl) rfl rfl (does_box (cs := [p0_0, p0_1]) rfl rfl rfl HM) ?_
  rintro _ w1684 ⟨b1678, rfl, HM⟩
  refine ops_does rfl (guard_none rfl) rfl rfl (does_alloc (cs := [.slice none 0 0, .slice none 0 0]) rfl tz29 rfl HM) ?_
  rintro _ w1685 ⟨b1681, rfl, HM⟩
  refine ops_nil ?_
  refine at_then ?_
  refine run_seq ?_
  obtain ⟨t1686, h1687, H⟩ := bind_some H
  obtain ⟨t1690, h1691, H⟩ := bind_some H
  refine run_drawf (fun w_ => Mem w [] w_ [box b1678 29 [p0_0, p0_1]]) [(0, true), (1, true), (3, true), (4, true), (2, false), (5, false), (6, true), (7, false)] mixed rfl rfl (by kernel_rfl) ?_
  replace HM := HM.grow (fr_drew _)
  have hS := Mem.suf (M := [box b1681 29 [.slice none 0 0, .slice none 0 0]]) HM
  refine drwp_take rfl (guard_none rfl) rfl rfl (fun w_ hS_ => (ex_fieldAddr (off' := 0) rfl rfl Try.underlying29 rfl tsz22 rfl)) hS ?_
  refine drwp_take rfl (guard_none rfl) rfl rfl (fun w_ hS_ => (ex_load1 rfl rfl Try.underlying22 rfl ((hS_.box_at 0 rfl) 0 _ rfl))) hS ?_
  refine drwp_take rfl (guard_none rfl) rfl rfl (fun w_ hS_ => (ex_fieldAddr (off' := 1) rfl rfl Try.underlying29 rfl tsz27 rfl)) hS ?_
  refine drwp_take rfl (guard_none rfl) rfl rfl (fun w_ hS_ => (ex_load1 rfl rfl Try.underlying27 rfl ((hS_.box_at 0 rfl) 1 _ rfl))) hS ?_
  refine drwp_one rfl (guard_none rfl) rfl rfl (does_callk rfl callok115 rfl (slices_Clone_string.calls (x0 := x0.fTexts) (HM.rd hp0_0) h1687)) ?_
  rintro u1688 w1694 ⟨_, rfl, hn⟩
  replace HM : Mem w [] w1694 [own kStr 9 u1688 t1686, box b1681 29 [.slice none 0 0, .slice none 0 0], box b1678 29 [p0_0, p0_1]] := HM.call hn
  refine ⟨Mem.suf (M := [own kStr 9 u1688 t1686, box b1681 29 [.slice none 0 0, .slice none 0 0]]) HM, ?_⟩
  have hS := Mem.suf (M := [own kStr 9 u1688 t1686, box b1681 29 [.slice none 0 0, .slice none 0 0]]) HM
  refine drwp_one rfl (guard_none rfl) rfl rfl (does_callk rfl callok116 rfl (slices_Clone_impl_Sign.calls (x0 := x0.fSigns) (HM.rd hp0_1) h1691)) ?_
  rintro u1692 w1695 ⟨_, rfl, hn⟩
  replace HM : Mem w [] w1695 [own kSign 161 u1692 t1690, own kStr 9 u1688 t1686, box b1681 29 [.slice none 0 0, .slice none 0 0], box b1678 29 [p0_0, p0_1]] := HM.call hn
  refine ⟨Mem.suf (M := [own kSign 161 u1692 t1690, own kStr 9 u1688 t1686, box b1681 29 [.slice none 0 0, .slice none 0 0]]) HM, ?_⟩
  have hS := Mem.suf (M := [own kSign 161 u1692 t1690, own kStr 9 u1688 t1686, box b1681 29 [.slice none 0 0, .slice none 0 0]]) HM
  refine drwp_take rfl (guard_none rfl) rfl rfl (fun w_ hS_ => (ex_build2 (fun u1688 u1692 => [(0, u1688), (1, u1692)]) (fun u1688 u1692 => #[u1688, u1692]) rfl rfl (fun _ _ _ _ _ _ => by kernel_rfl) (HM.own_rd 1 rfl).isSl (HM.own_rd 0 rfl).isSl)) hS ?_
  replace HM := HM.front 2 rfl rfl
  refine drwp_oneS rfl (guard_none rfl) rfl (does_store (vs := [u1688, u1692]) (cs' := [u1688, u1692]) rfl rfl rfl rfl tsz29 (Ones.rd (HM.own_rd 2 rfl) (Ones.rd (HM.own_rd 1 rfl) Ones.nil)) rfl rfl HM) ?_
  rintro w1696 HM
  refine ⟨Mem.suf (M := [box b1681 29 [u1688, u1692], own kSign 161 u1692 t1690, own kStr 9 u1688 t1686]) HM, ?_⟩
  have hS := Mem.suf (M := [box b1681 29 [u1688, u1692], own kSign 161 u1692 t1690, own kStr 9 u1688 t1686]) HM
  refine drwp_done ?_
  refine at_then ?_
  refine run_ret ?_
  replace HM := (HM.front 3 rfl rfl).drop
  replace HM := HM.front 1 rfl rfl
  replace HM := HM.front 2 rfl rfl
  replace HM := HM.front 2 rfl rfl
  have hcb0 := HM.box_at 0 rfl
  replace HM := (HM.front 0 rfl rfl).drop
  have hR := Option.some.inj H
  subst hR
  exact at_retN rfl rfl Try.underlying29 rfl tsz29 rfl hcb0 ⟨_, rfl, _, _, rfl, HM⟩

def impl_NoteText.f (k : Nat) (x0 : Ledger) (x1 : ByteArray) : Option LedgerResult := ((impl_LedgerFault.f k x0).bind fun t1733 => (bif (t1733 != 0) then some (⟨t1733, 0, (⟨([] : List ByteArray), ([] : List Sign)⟩ : Ledger)⟩ : LedgerResult) else ((impl_Ledger_idOf.f k x0 x1).bind fun t1740 => ((impl_ownLedger.f k x0).bind fun t1743 => ((impl_isText.f k x1).bind fun t1760 => (bif !t1760 then some (⟨2, 0, (⟨([] : List ByteArray), ([] : List Sign)⟩ : Ledger)⟩ : LedgerResult) else (bif (decide (0 < t1740)) then some (⟨0, t1740, t1743⟩ : LedgerResult) else (bif ((x0.fTexts.length : Int) == 60) then some (⟨2, 0, (⟨([] : List ByteArray), ([] : List Sign)⟩ : Ledger)⟩ : LedgerResult) else (chk (leB ((t1743.fTexts.length + ([x1] : List ByteArray).length) * 16) 140737488355328) (some (⟨0, ((t1743.fTexts ++ ([x1] : List ByteArray)).length : Int), (⟨t1743.fTexts ++ ([x1] : List ByteArray), t1743.fSigns⟩ : Ledger)⟩ : LedgerResult)))))))))))
theorem impl_NoteText.calls {k : Nat} {x0 : Ledger} {x1 : ByteArray} {p0_0 : Value} {p0_1 : Value} {w : World} (hp0_0 : RdS kStr w p0_0 x0.fTexts) (hp0_1 : RdS kSign w p0_1 x0.fSigns) {r : LedgerResult} (H : impl_NoteText.f k x0 x1 = some r) :
    Calls Try.prog 12 ([.agg #[p0_0, p0_1], .string x1] : List Value).toArray w (fun e w_ => ∃ v, e = .returned v ∧ ∃ u0 : Value, ∃ u1 : Value, v = (.agg #[.int .i64 r.fCode, .int .i64 r.fId, u0, u1]) ∧ Mem w [] w_ [own kStr 9 u0 r.fLedger.fTexts, own kSign 161 u1 r.fLedger.fSigns]) := by
  have HM := Mem.start w
  refine calls_run (N := 47) Try.func12 rfl rfl rfl rfl ?_
  unfold impl_NoteText.f at H
  refine run_seq ?_
  refine run_region rfl ?_
  refine ops_does rfl (guard_none rfl) rfl rfl (does_box (cs := [p0_0, p0_1]) rfl rfl rfl HM) ?_
  rintro _ w1728 ⟨b1722, rfl, HM⟩
  refine ops_does rfl (guard_none rfl) rfl rfl (does_alloc (cs := [.int .i64 0, .int .i64 0, .slice none 0 0, .slice none 0 0]) rfl tz31 rfl HM) ?_
  rintro _ w1729 ⟨b1725, rfl, HM⟩
  refine ops_nil ?_
  refine at_then ?_
  refine run_seq ?_
  refine run_seq ?_
  obtain ⟨t1733, h1734, H⟩ := bind_some H
  refine run_region rfl ?_
  refine ops_ex rfl (guard_none rfl) rfl rfl (ex_loadN (cs := [p0_0, p0_1]) rfl rfl Try.underlying29 rfl tsz29 rfl ((HM.box_at 1 rfl).sub 0 2 rfl)) ?_
  refine ops_does rfl (guard_none rfl) rfl rfl (does_callk rfl callok63 rfl (impl_LedgerFault.calls (x0 := x0) (HM.rd hp0_0) (HM.rd hp0_1) h1734)) ?_
  rintro _ w1735 ⟨rfl, hn⟩
  replace HM : Mem w [] w1735 [box b1725 31 [.int .i64 0, .int .i64 0, .slice none 0 0, .slice none 0 0], box b1722 29 [p0_0, p0_1]] := HM.call hn
  refine ops_ex rfl (guard_none rfl) rfl rfl (ex_assign rfl rfl) ?_
  refine ops_nil ?_
  refine at_then ?_
  refine run_seq ?_
  refine run_region rfl ?_
  refine ops_ex rfl (guard_none rfl) rfl rfl (ex_move rfl rfl) ?_
  refine ops_ex rfl (guard_none rfl) rfl rfl (ex_neq rfl rfl rfl) ?_
  refine ops_nil ?_
  refine at_then ?_
  refine run_cond (b := (t1733 != 0)) rfl (fun hb1736 => ?_) (fun hb1736 => ?_)
  · replace H := cond_t hb1736 H
    refine run_seq ?_
    refine run_region rfl ?_
    refine ops_ex rfl (guard_none rfl) rfl rfl (ex_move rfl rfl) ?_
    refine ops_ex rfl (guard_none rfl) rfl rfl (ex_build (cells := #[(.int .i64 t1733), (.int .i64 0), (.slice none 0 0), (.slice none 0 0)]) rfl rfl (by kernel_rfl)) ?_
    refine ops_doesS rfl (guard_none rfl) rfl (does_store (vs := [.int .i64 t1733, .int .i64 0, .slice none 0 0, .slice none 0 0]) (cs' := [.int .i64 t1733, .int .i64 0, .slice none 0 0, .slice none 0 0]) rfl rfl rfl rfl tsz31 (Ones.int (Ones.int (Ones.sl (Ones.sl Ones.nil)))) rfl rfl HM) ?_
    rintro w1737 HM
    refine ops_nil ?_
    refine at_then ?_
    refine run_ret ?_
    refine at_then_ret ?_
    replace HM := HM.empty kStr 9 none
    replace HM := HM.empty kSign 161 none
    replace HM := (HM.front 3 rfl rfl).drop
    replace HM := HM.front 1 rfl rfl
    replace HM := HM.front 2 rfl rfl
    have hcb0 := HM.box_at 0 rfl
    replace HM := (HM.front 0 rfl rfl).drop
    have hR := Option.some.inj H
    subst hR
    exact at_retN rfl rfl Try.underlying31 rfl tsz31 rfl hcb0 ⟨_, rfl, _, _, rfl, HM⟩
  · replace H := cond_f hb1736 H
    refine run_skip ?_
    refine at_then ?_
    refine run_seq ?_
    obtain ⟨t1740, h1741, H⟩ := bind_some H
    refine run_region rfl ?_
    refine ops_ex rfl (guard_none rfl) rfl rfl (ex_loadN (cs := [p0_0, p0_1]) rfl rfl Try.underlying29 rfl tsz29 rfl ((HM.box_at 1 rfl).sub 0 2 rfl)) ?_
    refine ops_ex rfl (guard_none rfl) rfl rfl (ex_move rfl rfl) ?_
    refine ops_does rfl (guard_none rfl) rfl rfl (does_callk rfl callok64 rfl (impl_Ledger_idOf.calls (x0 := x0) (x1 := x1) (HM.rd hp0_0) (HM.rd hp0_1) h1741)) ?_
    rintro _ w1742 ⟨rfl, hn⟩
    replace HM : Mem w [] w1742 [box b1725 31 [.int .i64 0, .int .i64 0, .slice none 0 0, .slice none 0 0], box b1722 29 [p0_0, p0_1]] := HM.call hn
    refine ops_ex rfl (guard_none rfl) rfl rfl (ex_assign rfl rfl) ?_
    refine ops_nil ?_
    refine at_then ?_
    refine run_seq ?_
    obtain ⟨t1743, h1744, H⟩ := bind_some H
    refine run_region rfl ?_
    refine ops_ex rfl (guard_none rfl) rfl rfl (ex_loadN (cs := [p0_0, p0_1]) rfl rfl Try.underlying29 rfl tsz29 rfl ((HM.box_at 1 rfl).sub 0 2 rfl)) ?_
    refine ops_does rfl (guard_none rfl) rfl rfl (does_callk rfl callok65 rfl (impl_ownLedger.calls (x0 := x0) (HM.rd hp0_0) (HM.rd hp0_1) h1744)) ?_
    rintro _ w1752 ⟨u1745, u1747, rfl, hn⟩
    replace HM : Mem w [] w1752 [own kStr 9 u1745 t1743.fTexts, own kSign 161 u1747 t1743.fSigns, box b1725 31 [.int .i64 0, .int .i64 0, .slice none 0 0, .slice none 0 0], box b1722 29 [p0_0, p0_1]] := HM.call hn
    refine ops_does rfl (guard_none rfl) rfl rfl (does_alloc (cs := [.slice none 0 0, .slice none 0 0]) rfl tz29 rfl HM) ?_
    rintro _ w1753 ⟨b1749, rfl, HM⟩
    refine ops_doesS rfl (guard_none rfl) rfl (does_store (vs := [u1745, u1747]) (cs' := [u1745, u1747]) rfl rfl rfl rfl tsz29 (Ones.rd (HM.own_rd 1 rfl) (Ones.rd (HM.own_rd 2 rfl) Ones.nil)) rfl rfl HM) ?_
    rintro w1754 HM
    refine ops_nil ?_
    refine at_then ?_
    refine run_seq ?_
    refine run_block ?_
    refine run_seq ?_
    obtain ⟨t1760, h1761, H⟩ := bind_some H
    refine run_region rfl ?_
    refine ops_ex rfl (guard_none rfl) rfl rfl (ex_move rfl rfl) ?_
    refine ops_does rfl (guard_none rfl) rfl rfl (does_callk rfl callok66 rfl (impl_isText.calls (x0 := x1) h1761)) ?_
    rintro _ w1762 ⟨rfl, hn⟩
    replace HM : Mem w [] w1762 [box b1749 29 [u1745, u1747], own kStr 9 u1745 t1743.fTexts, own kSign 161 u1747 t1743.fSigns, box b1725 31 [.int .i64 0, .int .i64 0, .slice none 0 0, .slice none 0 0], box b1722 29 [p0_0, p0_1]] := HM.call hn
    refine ops_ex rfl (guard_none rfl) rfl rfl (ex_not rfl rfl) ?_
    refine ops_ex rfl (guard_none rfl) rfl rfl (ex_assign rfl rfl) ?_
    refine ops_nil ?_
    refine at_then ?_
    refine run_cond (b := !t1760) rfl (fun hb1763 => ?_) (fun hb1763 => ?_)
    · replace H := cond_t hb1763 H
      refine run_seq ?_
      refine run_region rfl ?_
      refine ops_ex rfl (guard_none rfl) rfl rfl (ex_build (cells := #[(.int .i64 2), (.int .i64 0), (.slice none 0 0), (.slice none 0 0)]) rfl rfl (by kernel_rfl)) ?_
      replace HM := HM.front 3 rfl rfl
      refine ops_doesS rfl (guard_none rfl) rfl (does_store (vs := [.int .i64 2, .int .i64 0, .slice none 0 0, .slice none 0 0]) (cs' := [.int .i64 2, .int .i64 0, .slice none 0 0, .slice none 0 0]) rfl rfl rfl rfl tsz31 (Ones.int (Ones.int (Ones.sl (Ones.sl Ones.nil)))) rfl rfl HM) ?_
      rintro w1764 HM
      refine ops_nil ?_
      refine at_then ?_
      refine run_ret ?_
      refine at_block_ret ?_
      refine at_then_ret ?_
      replace HM := HM.empty kStr 9 none
      replace HM := HM.empty kSign 161 none
      replace HM := (HM.front 3 rfl rfl).drop
      replace HM := (HM.front 3 rfl rfl).drop
      replace HM := (HM.front 3 rfl rfl).drop
      replace HM := (HM.front 3 rfl rfl).drop
      replace HM := HM.front 1 rfl rfl
      replace HM := HM.front 2 rfl rfl
      have hcb0 := HM.box_at 0 rfl
      replace HM := (HM.front 0 rfl rfl).drop
      have hR := Option.some.inj H
      subst hR
      exact at_retN rfl rfl Try.underlying31 rfl tsz31 rfl hcb0 ⟨_, rfl, _, _, rfl, HM⟩
    · replace H := cond_f hb1763 H
      refine run_seq ?_
      refine run_region rfl ?_
      refine ops_ex rfl (guard_none rfl) rfl rfl (ex_move rfl rfl) ?_
      refine ops_ex rfl (guard_none rfl) rfl rfl (ex_gtr rfl rfl rfl) ?_
      refine ops_ex rfl (guard_none rfl) rfl rfl (ex_assign rfl rfl) ?_
      refine ops_nil ?_
      refine at_then ?_
      refine run_cond (b := (decide (0 < t1740))) rfl (fun hb1767 => ?_) (fun hb1767 => ?_)
      · replace H := cond_t hb1767 H
        refine run_seq ?_
        refine run_region rfl ?_
        refine ops_ex rfl (guard_none rfl) rfl rfl (ex_move rfl rfl) ?_
        refine ops_ex rfl (guard_none rfl) rfl rfl (ex_loadN (cs := [u1745, u1747]) rfl rfl Try.underlying29 rfl tsz29 rfl ((HM.box_at 0 rfl).sub 0 2 rfl)) ?_
        refine ops_ex rfl (guard_none rfl) rfl rfl (ex_build2 (fun u1745 u1747 => [(1, .int .i64 t1740), (2, .agg #[u1745, u1747])]) (fun u1745 u1747 => #[.int .i64 0, .int .i64 t1740, u1745, u1747]) rfl rfl (fun _ _ _ _ _ _ => by kernel_rfl) (HM.own_rd 1 rfl).isSl (HM.own_rd 2 rfl).isSl) ?_
        replace HM := HM.front 3 rfl rfl
        refine ops_doesS rfl (guard_none rfl) rfl (does_store (vs := [.int .i64 0, .int .i64 t1740, u1745, u1747]) (cs' := [.int .i64 0, .int .i64 t1740, u1745, u1747]) rfl rfl rfl rfl tsz31 (Ones.int (Ones.int (Ones.rd (HM.own_rd 2 rfl) (Ones.rd (HM.own_rd 3 rfl) Ones.nil)))) rfl rfl HM) ?_
        rintro w1768 HM
        refine ops_nil ?_
        refine at_then ?_
        refine run_ret ?_
        refine at_block_ret ?_
        refine at_then_ret ?_
        replace HM := (HM.front 1 rfl rfl).drop
        replace HM := (HM.front 3 rfl rfl).drop
        have hcb0 := HM.box_at 0 rfl
        replace HM := (HM.front 0 rfl rfl).drop
        have hR := Option.some.inj H
        subst hR
        exact at_retN rfl rfl Try.underlying31 rfl tsz31 rfl hcb0 ⟨_, rfl, _, _, rfl, HM⟩
      · replace H := cond_f hb1767 H
        refine run_seq ?_
        refine run_region rfl ?_
        refine ops_ex rfl (guard_none rfl) rfl rfl (ex_fieldAddr (off' := 0) rfl rfl Try.underlying29 rfl tsz22 rfl) ?_
        refine ops_ex rfl (guard_none rfl) rfl rfl (ex_load1 rfl rfl Try.underlying22 rfl ((HM.box_at 4 rfl) 0 _ rfl)) ?_
        refine ops_ex rfl (guard_none rfl) rfl rfl (ex_len (d := kStr) (xs := x0.fTexts) rfl rfl Try.underlying22 hp0_0) ?_
        refine ops_ex rfl (guard_none rfl) rfl rfl (ex_eql rfl rfl rfl) ?_
        refine ops_ex rfl (guard_none rfl) rfl rfl (ex_assign rfl rfl) ?_
        refine ops_nil ?_
        refine at_then ?_
        refine run_cond (b := ((x0.fTexts.length : Int) == 60)) rfl (fun hb1769 => ?_) (fun hb1769 => ?_)
        · replace H := cond_t hb1769 H
          refine run_seq ?_
          refine run_region rfl ?_
          refine ops_ex rfl (guard_none rfl) rfl rfl (ex_build (cells := #[(.int .i64 2), (.int .i64 0), (.slice none 0 0), (.slice none 0 0)]) rfl rfl (by kernel_rfl)) ?_
          replace HM := HM.front 3 rfl rfl
          refine ops_doesS rfl (guard_none rfl) rfl (does_store (vs := [.int .i64 2, .int .i64 0, .slice none 0 0, .slice none 0 0]) (cs' := [.int .i64 2, .int .i64 0, .slice none 0 0, .slice none 0 0]) rfl rfl rfl rfl tsz31 (Ones.int (Ones.int (Ones.sl (Ones.sl Ones.nil)))) rfl rfl HM) ?_
          rintro w1770 HM
          refine ops_nil ?_
          refine at_then ?_
          refine run_ret ?_
          refine at_block_ret ?_
          refine at_then_ret ?_
          replace HM := HM.empty kStr 9 none
          replace HM := HM.empty kSign 161 none
          replace HM := (HM.front 3 rfl rfl).drop
          replace HM := (HM.front 3 rfl rfl).drop
          replace HM := (HM.front 3 rfl rfl).drop
          replace HM := (HM.front 3 rfl rfl).drop
          replace HM := HM.front 1 rfl rfl
          replace HM := HM.front 2 rfl rfl
          have hcb0 := HM.box_at 0 rfl
          replace HM := (HM.front 0 rfl rfl).drop
          have hR := Option.some.inj H
          subst hR
          exact at_retN rfl rfl Try.underlying31 rfl tsz31 rfl hcb0 ⟨_, rfl, _, _, rfl, HM⟩
        · replace H := cond_f hb1769 H
          refine run_skip ?_
          refine at_block ?_
          refine at_then ?_
          refine run_seq ?_
          obtain ⟨e1776, H⟩ := chk_some H
          refine run_region rfl ?_
          refine ops_ex rfl (guard_none rfl) rfl rfl (ex_fieldAddr (off' := 0) rfl rfl Try.underlying29 rfl tsz22 rfl) ?_
          refine ops_ex rfl (guard_none rfl) rfl rfl (ex_load1 rfl rfl Try.underlying22 rfl ((HM.box_at 0 rfl) 0 _ rfl)) ?_
          refine ops_ex rfl (guard_none rfl) rfl rfl (ex_move rfl rfl) ?_
          refine ops_does rfl (guard_none rfl) rfl rfl (does_lit (e := 9) (cs := [.string x1]) (xs := ([x1] : List ByteArray)) kStr rfl rfl (fun _ => by kernel_rfl) rfl rfl (fun _ _ h => by have h' : _ = [] := h; subst h'; exact (Elems.cons (d := kStr) (f := []) ⟨rfl, rfl⟩ .nil)) HM.emp) ?_
          rintro v1773 w1779 HM
          replace HM := HM.front 2 rfl rfl
          refine ops_does rfl (guard_none rfl) rfl rfl (does_appendR kStr flat_plain rfl rfl rfl Try.underlying22 tsz9 rfl tby9 tz9 rfl rfl (leB_le e1776) (HM.own_rd 1 rfl) HM) ?_
          rintro v1777 w1780 HM
          refine ops_ex rfl (guard_none rfl) rfl rfl (ex_fieldAddr (off' := 0) rfl rfl Try.underlying29 rfl tsz22 rfl) ?_
          replace HM := HM.front 2 rfl rfl
          refine ops_doesS rfl (guard_none rfl) rfl (does_store (vs := [v1777]) (cs' := [v1777, u1747]) rfl rfl rfl (rd_cells (HM.own_rd 1 rfl)) tsz22 (Ones.rd (HM.own_rd 1 rfl) Ones.nil) rfl rfl HM) ?_
          rintro w1781 HM
          refine ops_nil ?_
          refine at_then ?_
          refine run_seq ?_
          refine run_region rfl ?_
          refine ops_ex rfl (guard_none rfl) rfl rfl (ex_fieldAddr (off' := 0) rfl rfl Try.underlying29 rfl tsz22 rfl) ?_
          refine ops_ex rfl (guard_none rfl) rfl rfl (ex_load1 rfl rfl Try.underlying22 rfl ((HM.box_at 0 rfl) 0 _ rfl)) ?_
          refine ops_ex rfl (guard_none rfl) rfl rfl (ex_len (d := kStr) (xs := t1743.fTexts ++ ([x1] : List ByteArray)) rfl rfl Try.underlying22 (HM.own_rd 1 rfl)) ?_
          refine ops_ex rfl (guard_none rfl) rfl rfl (ex_loadN (cs := [v1777, u1747]) rfl rfl Try.underlying29 rfl tsz29 rfl ((HM.box_at 0 rfl).sub 0 2 rfl)) ?_
          refine ops_ex rfl (guard_none rfl) rfl rfl (ex_build2 (fun v1777 u1747 => [(1, .int .i64 ((t1743.fTexts ++ ([x1] : List ByteArray)).length : Int)), (2, .agg #[v1777, u1747])]) (fun v1777 u1747 => #[.int .i64 0, .int .i64 ((t1743.fTexts ++ ([x1] : List ByteArray)).length : Int), v1777, u1747]) rfl rfl (fun _ _ _ _ _ _ => by kernel_rfl) (HM.own_rd 1 rfl).isSl (HM.own_rd 3 rfl).isSl) ?_
          replace HM := HM.front 4 rfl rfl
          refine ops_doesS rfl (guard_none rfl) rfl (does_store (vs := [.int .i64 0, .int .i64 ((t1743.fTexts ++ ([x1] : List ByteArray)).length : Int), v1777, u1747]) (cs' := [.int .i64 0, .int .i64 ((t1743.fTexts ++ ([x1] : List ByteArray)).length : Int), v1777, u1747]) rfl rfl rfl rfl tsz31 (Ones.int (Ones.int (Ones.rd (HM.own_rd 2 rfl) (Ones.rd (HM.own_rd 4 rfl) Ones.nil)))) rfl rfl HM) ?_
          rintro w1782 HM
          refine ops_nil ?_
          refine at_then ?_
          refine run_ret ?_
          replace HM := (HM.front 1 rfl rfl).drop
          replace HM := (HM.front 2 rfl rfl).drop
          replace HM := (HM.front 3 rfl rfl).drop
          have hcb0 := HM.box_at 0 rfl
          replace HM := (HM.front 0 rfl rfl).drop
          have hR := Option.some.inj H
          subst hR
          exact at_retN rfl rfl Try.underlying31 rfl tsz31 rfl hcb0 ⟨_, rfl, _, _, rfl, HM⟩

def laws_eqStringS.l0 (x0 : List ByteArray) (x1 : List ByteArray) : Nat → Int → Option (Bool ⊕ Unit)
  | 0, _ => none
  | k + 1, a1860 => (bif (decide (a1860 < (x0.length : Int))) then (chk (idxOk a1860 x0.length) (chk (idxOk a1860 x1.length) (bif (!sEq (gt x0 a1860) (gt x1 a1860)) then some (.inl false) else laws_eqStringS.l0 x0 x1 k (wrap64 (a1860 + 1))))) else some (.inr ()))
theorem laws_eqStringS.l0_z (x0 : List ByteArray) (x1 : List ByteArray) (a1860 : Int) : laws_eqStringS.l0 x0 x1 0 a1860 = none := rfl
theorem laws_eqStringS.l0_s (x0 : List ByteArray) (x1 : List ByteArray) (k : Nat) (a1860 : Int) : laws_eqStringS.l0 x0 x1 (k + 1) a1860 = (bif (decide (a1860 < (x0.length : Int))) then (chk (idxOk a1860 x0.length) (chk (idxOk a1860 x1.length) (bif (!sEq (gt x0 a1860) (gt x1 a1860)) then some (.inl false) else laws_eqStringS.l0 x0 x1 k (wrap64 (a1860 + 1))))) else some (.inr ())) := rfl
def laws_eqStringS.f (k : Nat) (x0 : List ByteArray) (x1 : List ByteArray) : Option Bool := (bif ((x0.length : Int) != (x1.length : Int)) then some false else ((laws_eqStringS.l0 x0 x1 k 0).bind fun o1852 => thn o1852 (fun r => some r) (fun _ => some true)))
theorem laws_eqStringS.calls {k : Nat} {x0 : List ByteArray} {x1 : List ByteArray} {p0 : Value} {p1 : Value} {w : World} (hp0 : RdS kStr w p0 x0) (hp1 : RdS kStr w p1 x1) {r : Bool} (H : laws_eqStringS.f k x0 x1 = some r) :
    Calls Try.prog 67 ([p0, p1] : List Value).toArray w (fun e w_ => ∃ v, e = .returned v ∧ v = (.bool r) ∧ Mem w [] w_ []) := by
  have HM := Mem.start w
  refine calls_run (N := 26) Try.func67 rfl rfl rfl rfl ?_
  unfold laws_eqStringS.f at H
  refine run_seq ?_
  refine run_region rfl ?_
  refine ops_ex rfl (guard_none rfl) rfl rfl (ex_assign rfl rfl) ?_
  refine ops_nil ?_
  refine at_then ?_
  refine run_seq ?_
  refine run_seq ?_
  refine run_region rfl ?_
  refine ops_ex rfl (guard_none rfl) rfl rfl (ex_move rfl rfl) ?_
  refine ops_ex rfl (guard_none rfl) rfl rfl (ex_len (d := kStr) (xs := x0) rfl rfl Try.underlying22 hp0) ?_
  refine ops_ex rfl (guard_none rfl) rfl rfl (ex_move rfl rfl) ?_
  refine ops_ex rfl (guard_none rfl) rfl rfl (ex_len (d := kStr) (xs := x1) rfl rfl Try.underlying22 hp1) ?_
  refine ops_ex rfl (guard_none rfl) rfl rfl (ex_neq rfl rfl rfl) ?_
  refine ops_nil ?_
  refine at_then ?_
  refine run_cond (b := ((x0.length : Int) != (x1.length : Int))) rfl (fun hb1832 => ?_) (fun hb1832 => ?_)
  · replace H := cond_t hb1832 H
    refine run_seq ?_
    refine run_region rfl ?_
    refine ops_ex rfl (guard_none rfl) rfl rfl (ex_assign rfl rfl) ?_
    refine ops_nil ?_
    refine at_then ?_
    refine run_ret ?_
    refine at_then_ret ?_
    have hR := Option.some.inj H
    subst hR
    exact at_ret1 rfl rfl ⟨_, rfl, rfl, HM⟩
  · replace H := cond_f hb1832 H
    refine run_skip ?_
    refine at_then ?_
    obtain ⟨o1852, ho1853, H⟩ := bind_some H
    refine run_mid (fun ρ_ w_ => Sum.inr () = o1852 ∧ ρ_ = [] ∧ Mem w [] w_ []) ?_ ?_
    · skip
      refine run_seq ?_
      refine run_region rfl ?_
      refine ops_ex rfl (guard_none rfl) rfl rfl (ex_assign rfl rfl) ?_
      refine ops_nil ?_
      refine at_then ?_
      refine run_block ?_
      refine run_loop (fun k_ ρ_ w_ => ∃ a1860 : Int, laws_eqStringS.l0 x0 x1 k_ a1860 = some o1852 ∧ ρ_ = [(0, p0), (1, p1), (5, .int .i64 a1860)] ∧ Mem w [] w_ []) k (ρ1 := [(0, p0), (1, p1), (5, .int .i64 0)]) ⟨_, ho1853, rfl, HM⟩ (Sub.cons rfl (Sub.cons rfl (Sub.cons rfl Sub.nil))) ?_
      clear HM ho1853
      rintro k1867 _ w1868 ⟨a1860, ho1853, rfl, HM⟩
      obtain _ | k1867 := k1867
      · exact nomatch ((laws_eqStringS.l0_z x0 x1 a1860).symm.trans ho1853)
      replace ho1853 := (laws_eqStringS.l0_s x0 x1 k1867 a1860).symm.trans ho1853
      refine run_seq ?_
      refine run_seq ?_
      refine run_region rfl ?_
      refine ops_ex rfl (guard_none rfl) rfl rfl (ex_move rfl rfl) ?_
      refine ops_ex rfl (guard_none rfl) rfl rfl (ex_move rfl rfl) ?_
      refine ops_ex rfl (guard_none rfl) rfl rfl (ex_len (d := kStr) (xs := x0) rfl rfl Try.underlying22 hp0) ?_
      refine ops_ex rfl (guard_none rfl) rfl rfl (ex_lss rfl rfl rfl) ?_
      refine ops_nil ?_
      refine at_then ?_
      refine run_cond (b := (decide (a1860 < (x0.length : Int)))) rfl (fun hb1869 => ?_) (fun hb1869 => ?_)
      · replace ho1853 := cond_t hb1869 ho1853
        refine run_skip ?_
        refine at_then ?_
        refine run_seq ?_
        refine run_block ?_
        refine run_seq ?_
        obtain ⟨e1870, ho1853⟩ := chk_some ho1853
        obtain ⟨e1872, ho1853⟩ := chk_some ho1853
        refine run_drawf (fun w_ => Mem w [] w_ []) [(0, true), (1, true), (2, true), (3, true), (4, true), (5, true), (6, true), (7, true), (8, true)] mixed rfl rfl (by kernel_rfl) ?_
        replace HM := HM.grow (fr_drew _)
        have hS := Mem.suf (M := []) HM
        refine drwp_take rfl (guard_none rfl) rfl rfl (fun w_ hS_ => (ex_move rfl rfl)) hS ?_
        refine drwp_take rfl (guard_none rfl) rfl rfl (fun w_ hS_ => (ex_move rfl rfl)) hS ?_
        have hc1871 : CellsAt _ (sb p0) (so p0 + (a1860).toNat * 1) [(.string (gt x0 a1860))] := rd_plain hp0 e1870
        refine drwp_take rfl (guard_none rfl) rfl rfl (fun w_ hS_ => (ex_indexAddr (d := kStr) rfl rfl rfl Try.underlying22 tsz9 hp0 (idx_lo e1870) (idx_hi e1870))) hS ?_
        refine drwp_take rfl (guard_none rfl) rfl rfl (fun w_ hS_ => (ex_load1 rfl rfl Try.underlying9 rfl ((hS_.at_ hc1871) 0 _ rfl))) hS ?_
        refine drwp_take rfl (guard_none rfl) rfl rfl (fun w_ hS_ => (ex_move rfl rfl)) hS ?_
        refine drwp_take rfl (guard_none rfl) rfl rfl (fun w_ hS_ => (ex_move rfl rfl)) hS ?_
        have hc1873 : CellsAt _ (sb p1) (so p1 + (a1860).toNat * 1) [(.string (gt x1 a1860))] := rd_plain hp1 e1872
        refine drwp_take rfl (guard_none rfl) rfl rfl (fun w_ hS_ => (ex_indexAddr (d := kStr) rfl rfl rfl Try.underlying22 tsz9 hp1 (idx_lo e1872) (idx_hi e1872))) hS ?_
        refine drwp_take rfl (guard_none rfl) rfl rfl (fun w_ hS_ => (ex_load1 rfl rfl Try.underlying9 rfl ((hS_.at_ hc1873) 0 _ rfl))) hS ?_
        refine drwp_take rfl (guard_none rfl) rfl rfl (fun w_ hS_ => (ex_sneq rfl rfl rfl)) hS ?_
        refine drwp_done ?_
        refine at_then ?_
        refine run_cond (b := (!sEq (gt x0 a1860) (gt x1 a1860))) rfl (fun hb1874 => ?_) (fun hb1874 => ?_)
        · replace ho1853 := cond_t hb1874 ho1853
          refine run_seq ?_
          refine run_region rfl ?_
          refine ops_ex rfl (guard_none rfl) rfl rfl (ex_assign rfl rfl) ?_
          refine ops_nil ?_
          refine at_then ?_
          refine run_ret ?_
          refine at_block_ret ?_
          refine at_then_ret ?_
          refine at_then_ret ?_
          refine at_block_ret ?_
          refine at_then_ret ?_
          have hR := Option.some.inj ho1853
          subst hR
          have hT := thn_inl H
          have hR := Option.some.inj hT
          subst hR
          exact at_ret1 rfl rfl ⟨_, rfl, rfl, HM⟩
        · replace ho1853 := cond_f hb1874 ho1853
          refine run_skip ?_
          refine at_block ?_
          refine at_then ?_
          refine run_region rfl ?_
          refine ops_ex rfl (guard_none rfl) rfl rfl (ex_move rfl rfl) ?_
          refine ops_ex rfl (guard_none rfl) rfl rfl (ex_add rfl rfl rfl) ?_
          refine ops_ex rfl (guard_none rfl) rfl rfl (ex_assign rfl rfl) ?_
          refine ops_nil ?_
          exact at_again k1867 (ρ1 := [(0, p0), (1, p1), (5, .int .i64 (wrap64 (a1860 + 1)))]) (Nat.lt_succ_self _) ⟨_, ho1853, rfl, HM⟩ (Sub.cons rfl (Sub.cons rfl (Sub.cons rfl Sub.nil)))
      · replace ho1853 := cond_f hb1869 ho1853
        refine run_exit ?_
        refine at_then_exit ?_
        refine at_then_exit ?_
        refine at_block_exit ?_
        exact at_mid (ρ' := []) ⟨(Option.some.inj ho1853), rfl, HM⟩ Sub.nil
    · rintro _ w1875 ⟨rfl, rfl, HM⟩
      replace H := (thn_inr H)
      refine run_seq ?_
      refine run_region rfl ?_
      refine ops_ex rfl (guard_none rfl) rfl rfl (ex_assign rfl rfl) ?_
      refine ops_nil ?_
      refine at_then ?_
      refine run_ret ?_
      have hR := Option.some.inj H
      subst hR
      exact at_ret1 rfl rfl ⟨_, rfl, rfl, HM⟩

def laws_eqSign.f (k : Nat) (x0 : Sign) (x1 : Sign) : Option Bool := (bif (x0.fKey != x1.fKey) then some false else (bif (x0.fId != x1.fId) then some false else some true))
theorem laws_eqSign.calls {k : Nat} {x0 : Sign} {x1 : Sign}  {w : World}  {r : Bool} (H : laws_eqSign.f k x0 x1 = some r) :
    Calls Try.prog 117 ([.agg #[(.int .i64 x0.fKey), (.int .i64 x0.fId)], .agg #[(.int .i64 x1.fKey), (.int .i64 x1.fId)]] : List Value).toArray w (fun e w_ => ∃ v, e = .returned v ∧ v = (.bool r) ∧ Mem w [] w_ []) := by
  have HM := Mem.start w
  refine calls_run (N := 15) Try.func117 rfl rfl rfl rfl ?_
  unfold laws_eqSign.f at H
  refine run_seq ?_
  refine run_region rfl ?_
  refine ops_does rfl (guard_none rfl) rfl rfl (does_box (cs := [.int .i64 x0.fKey, .int .i64 x0.fId]) rfl rfl rfl HM) ?_
  rintro _ w1904 ⟨b1898, rfl, HM⟩
  refine ops_does rfl (guard_none rfl) rfl rfl (does_box (cs := [.int .i64 x1.fKey, .int .i64 x1.fId]) rfl rfl rfl HM) ?_
  rintro _ w1905 ⟨b1901, rfl, HM⟩
  refine ops_ex rfl (guard_none rfl) rfl rfl (ex_assign rfl rfl) ?_
  refine ops_nil ?_
  refine at_then ?_
  refine run_seq ?_
  refine run_seq ?_
  refine run_region rfl ?_
  refine ops_ex rfl (guard_none rfl) rfl rfl (ex_fieldAddr (off' := 0) rfl rfl Try.underlying161 rfl tsz2 rfl) ?_
  refine ops_ex rfl (guard_none rfl) rfl rfl (ex_load1 rfl rfl Try.underlying2 rfl ((HM.box_at 1 rfl) 0 _ rfl)) ?_
  refine ops_ex rfl (guard_none rfl) rfl rfl (ex_fieldAddr (off' := 0) rfl rfl Try.underlying161 rfl tsz2 rfl) ?_
  refine ops_ex rfl (guard_none rfl) rfl rfl (ex_load1 rfl rfl Try.underlying2 rfl ((HM.box_at 0 rfl) 0 _ rfl)) ?_
  refine ops_ex rfl (guard_none rfl) rfl rfl (ex_neq rfl rfl rfl) ?_
  refine ops_nil ?_
  refine at_then ?_
  refine run_cond (b := (x0.fKey != x1.fKey)) rfl (fun hb1907 => ?_) (fun hb1907 => ?_)
  · replace H := cond_t hb1907 H
    refine run_seq ?_
    refine run_region rfl ?_
    refine ops_ex rfl (guard_none rfl) rfl rfl (ex_assign rfl rfl) ?_
    refine ops_nil ?_
    refine at_then ?_
    refine run_ret ?_
    refine at_then_ret ?_
    replace HM := (HM.front 0 rfl rfl).drop
    replace HM := (HM.front 0 rfl rfl).drop
    have hR := Option.some.inj H
    subst hR
    exact at_ret1 rfl rfl ⟨_, rfl, rfl, HM⟩
  · replace H := cond_f hb1907 H
    refine run_skip ?_
    refine at_then ?_
    refine run_seq ?_
    refine run_seq ?_
    refine run_region rfl ?_
    refine ops_ex rfl (guard_none rfl) rfl rfl (ex_fieldAddr (off' := 1) rfl rfl Try.underlying161 rfl tsz2 rfl) ?_
    refine ops_ex rfl (guard_none rfl) rfl rfl (ex_load1 rfl rfl Try.underlying2 rfl ((HM.box_at 1 rfl) 1 _ rfl)) ?_
    refine ops_ex rfl (guard_none rfl) rfl rfl (ex_fieldAddr (off' := 1) rfl rfl Try.underlying161 rfl tsz2 rfl) ?_
    refine ops_ex rfl (guard_none rfl) rfl rfl (ex_load1 rfl rfl Try.underlying2 rfl ((HM.box_at 0 rfl) 1 _ rfl)) ?_
    refine ops_ex rfl (guard_none rfl) rfl rfl (ex_neq rfl rfl rfl) ?_
    refine ops_nil ?_
    refine at_then ?_
    refine run_cond (b := (x0.fId != x1.fId)) rfl (fun hb1908 => ?_) (fun hb1908 => ?_)
    · replace H := cond_t hb1908 H
      refine run_seq ?_
      refine run_region rfl ?_
      refine ops_ex rfl (guard_none rfl) rfl rfl (ex_assign rfl rfl) ?_
      refine ops_nil ?_
      refine at_then ?_
      refine run_ret ?_
      refine at_then_ret ?_
      replace HM := (HM.front 0 rfl rfl).drop
      replace HM := (HM.front 0 rfl rfl).drop
      have hR := Option.some.inj H
      subst hR
      exact at_ret1 rfl rfl ⟨_, rfl, rfl, HM⟩
    · replace H := cond_f hb1908 H
      refine run_skip ?_
      refine at_then ?_
      refine run_seq ?_
      refine run_region rfl ?_
      refine ops_ex rfl (guard_none rfl) rfl rfl (ex_assign rfl rfl) ?_
      refine ops_nil ?_
      refine at_then ?_
      refine run_ret ?_
      replace HM := (HM.front 0 rfl rfl).drop
      replace HM := (HM.front 0 rfl rfl).drop
      have hR := Option.some.inj H
      subst hR
      exact at_ret1 rfl rfl ⟨_, rfl, rfl, HM⟩

def laws_eqSignS.l0 (x0 : List Sign) (x1 : List Sign) : Nat → Int → Option (Bool ⊕ Unit)
  | 0, _ => none
  | k + 1, a1968 => (bif (decide (a1968 < (x0.length : Int))) then (chk (idxOk a1968 x0.length) (chk (idxOk a1968 x1.length) ((laws_eqSign.f k (gt x0 a1968) (gt x1 a1968)).bind fun t1984 => (bif !t1984 then some (.inl false) else laws_eqSignS.l0 x0 x1 k (wrap64 (a1968 + 1)))))) else some (.inr ()))
theorem laws_eqSignS.l0_z (x0 : List Sign) (x1 : List Sign) (a1968 : Int) : laws_eqSignS.l0 x0 x1 0 a1968 = none := rfl
theorem laws_eqSignS.l0_s (x0 : List Sign) (x1 : List Sign) (k : Nat) (a1968 : Int) : laws_eqSignS.l0 x0 x1 (k + 1) a1968 = (bif (decide (a1968 < (x0.length : Int))) then (chk (idxOk a1968 x0.length) (chk (idxOk a1968 x1.length) ((laws_eqSign.f k (gt x0 a1968) (gt x1 a1968)).bind fun t1984 => (bif !t1984 then some (.inl false) else laws_eqSignS.l0 x0 x1 k (wrap64 (a1968 + 1)))))) else some (.inr ())) := rfl
def laws_eqSignS.f (k : Nat) (x0 : List Sign) (x1 : List Sign) : Option Bool := (bif ((x0.length : Int) != (x1.length : Int)) then some false else ((laws_eqSignS.l0 x0 x1 k 0).bind fun o1958 => thn o1958 (fun r => some r) (fun _ => some true)))
theorem laws_eqSignS.calls {k : Nat} {x0 : List Sign} {x1 : List Sign} {p0 : Value} {p1 : Value} {w : World} (hp0 : RdS kSign w p0 x0) (hp1 : RdS kSign w p1 x1) {r : Bool} (H : laws_eqSignS.f k x0 x1 = some r) :
    Calls Try.prog 68 ([p0, p1] : List Value).toArray w (fun e w_ => ∃ v, e = .returned v ∧ v = (.bool r) ∧ Mem w [] w_ []) := by
  have HM := Mem.start w
  refine calls_run (N := 27) Try.func68 rfl rfl rfl rfl ?_
  unfold laws_eqSignS.f at H
  refine run_seq ?_
  refine run_region rfl ?_
  refine ops_ex rfl (guard_none rfl) rfl rfl (ex_assign rfl rfl) ?_
  refine ops_nil ?_
  refine at_then ?_
  refine run_seq ?_
  refine run_seq ?_
  refine run_region rfl ?_
  refine ops_ex rfl (guard_none rfl) rfl rfl (ex_move rfl rfl) ?_
  refine ops_ex rfl (guard_none rfl) rfl rfl (ex_len (d := kSign) (xs := x0) rfl rfl Try.underlying27 hp0) ?_
  refine ops_ex rfl (guard_none rfl) rfl rfl (ex_move rfl rfl) ?_
  refine ops_ex rfl (guard_none rfl) rfl rfl (ex_len (d := kSign) (xs := x1) rfl rfl Try.underlying27 hp1) ?_
  refine ops_ex rfl (guard_none rfl) rfl rfl (ex_neq rfl rfl rfl) ?_
  refine ops_nil ?_
  refine at_then ?_
  refine run_cond (b := ((x0.length : Int) != (x1.length : Int))) rfl (fun hb1932 => ?_) (fun hb1932 => ?_)
  · replace H := cond_t hb1932 H
    refine run_seq ?_
    refine run_region rfl ?_
    refine ops_ex rfl (guard_none rfl) rfl rfl (ex_assign rfl rfl) ?_
    refine ops_nil ?_
    refine at_then ?_
    refine run_ret ?_
    refine at_then_ret ?_
    have hR := Option.some.inj H
    subst hR
    exact at_ret1 rfl rfl ⟨_, rfl, rfl, HM⟩
  · replace H := cond_f hb1932 H
    refine run_skip ?_
    refine at_then ?_
    obtain ⟨o1958, ho1959, H⟩ := bind_some H
    refine run_mid (fun ρ_ w_ => Sum.inr () = o1958 ∧ ρ_ = [] ∧ Mem w [] w_ []) ?_ ?_
    · skip
      refine run_seq ?_
      refine run_region rfl ?_
      refine ops_ex rfl (guard_none rfl) rfl rfl (ex_assign rfl rfl) ?_
      refine ops_nil ?_
      refine at_then ?_
      refine run_block ?_
      refine run_loop (fun k_ ρ_ w_ => ∃ a1968 : Int, laws_eqSignS.l0 x0 x1 k_ a1968 = some o1958 ∧ ρ_ = [(0, p0), (1, p1), (5, .int .i64 a1968)] ∧ Mem w [] w_ []) k (ρ1 := [(0, p0), (1, p1), (5, .int .i64 0)]) ⟨_, ho1959, rfl, HM⟩ (Sub.cons rfl (Sub.cons rfl (Sub.cons rfl Sub.nil))) ?_
      clear HM ho1959
      rintro k1977 _ w1978 ⟨a1968, ho1959, rfl, HM⟩
      obtain _ | k1977 := k1977
      · exact nomatch ((laws_eqSignS.l0_z x0 x1 a1968).symm.trans ho1959)
      replace ho1959 := (laws_eqSignS.l0_s x0 x1 k1977 a1968).symm.trans ho1959
      refine run_seq ?_
      refine run_seq ?_
      refine run_region rfl ?_
      refine ops_ex rfl (guard_none rfl) rfl rfl (ex_move rfl rfl) ?_
      refine ops_ex rfl (guard_none rfl) rfl rfl (ex_move rfl rfl) ?_
      refine ops_ex rfl (guard_none rfl) rfl rfl (ex_len (d := kSign) (xs := x0) rfl rfl Try.underlying27 hp0) ?_
      refine ops_ex rfl (guard_none rfl) rfl rfl (ex_lss rfl rfl rfl) ?_
      refine ops_nil ?_
      refine at_then ?_
      refine run_cond (b := (decide (a1968 < (x0.length : Int)))) rfl (fun hb1979 => ?_) (fun hb1979 => ?_)
      · replace ho1959 := cond_t hb1979 ho1959
        refine run_skip ?_
        refine at_then ?_
        refine run_seq ?_
        refine run_block ?_
        refine run_seq ?_
        obtain ⟨e1980, ho1959⟩ := chk_some ho1959
        obtain ⟨e1982, ho1959⟩ := chk_some ho1959
        obtain ⟨t1984, h1985, ho1959⟩ := bind_some ho1959
        refine run_drawf (fun w_ => Mem w [] w_ []) [(0, true), (1, true), (2, true), (3, true), (4, true), (5, true), (6, true), (7, true), (8, false), (9, true)] mixed rfl rfl (by kernel_rfl) ?_
        replace HM := HM.grow (fr_drew _)
        have hS := Mem.suf (M := []) HM
        refine drwp_take rfl (guard_none rfl) rfl rfl (fun w_ hS_ => (ex_move rfl rfl)) hS ?_
        refine drwp_take rfl (guard_none rfl) rfl rfl (fun w_ hS_ => (ex_move rfl rfl)) hS ?_
        have hc1981 : CellsAt _ (sb p0) (so p0 + (a1968).toNat * 2) [(.int .i64 ((gt x0 a1968).fKey)), (.int .i64 ((gt x0 a1968).fId))] := rd_plain hp0 e1980
        refine drwp_take rfl (guard_none rfl) rfl rfl (fun w_ hS_ => (ex_indexAddr (d := kSign) rfl rfl rfl Try.underlying27 tsz161 hp0 (idx_lo e1980) (idx_hi e1980))) hS ?_
        refine drwp_take rfl (guard_none rfl) rfl rfl (fun w_ hS_ => (ex_loadN (cs := [(.int .i64 ((gt x0 a1968).fKey)), (.int .i64 ((gt x0 a1968).fId))]) rfl rfl Try.underlying161 rfl tsz161 rfl ((hS_.at_ hc1981).sub 0 2 rfl))) hS ?_
        refine drwp_take rfl (guard_none rfl) rfl rfl (fun w_ hS_ => (ex_move rfl rfl)) hS ?_
        refine drwp_take rfl (guard_none rfl) rfl rfl (fun w_ hS_ => (ex_move rfl rfl)) hS ?_
        have hc1983 : CellsAt _ (sb p1) (so p1 + (a1968).toNat * 2) [(.int .i64 ((gt x1 a1968).fKey)), (.int .i64 ((gt x1 a1968).fId))] := rd_plain hp1 e1982
        refine drwp_take rfl (guard_none rfl) rfl rfl (fun w_ hS_ => (ex_indexAddr (d := kSign) rfl rfl rfl Try.underlying27 tsz161 hp1 (idx_lo e1982) (idx_hi e1982))) hS ?_
        refine drwp_take rfl (guard_none rfl) rfl rfl (fun w_ hS_ => (ex_loadN (cs := [(.int .i64 ((gt x1 a1968).fKey)), (.int .i64 ((gt x1 a1968).fId))]) rfl rfl Try.underlying161 rfl tsz161 rfl ((hS_.at_ hc1983).sub 0 2 rfl))) hS ?_
        refine drwp_one rfl (guard_none rfl) rfl rfl (does_callk rfl callok117 rfl (laws_eqSign.calls (x0 := (gt x0 a1968)) (x1 := (gt x1 a1968)) h1985)) ?_
        rintro _ w1986 ⟨rfl, hn⟩
        replace HM : Mem w [] w1986 [] := HM.call hn
        refine ⟨Mem.suf (M := []) HM, ?_⟩
        have hS := Mem.suf (M := []) HM
        refine drwp_take rfl (guard_none rfl) rfl rfl (fun w_ hS_ => (ex_not rfl rfl)) hS ?_
        refine drwp_done ?_
        refine at_then ?_
        refine run_cond (b := !t1984) rfl (fun hb1987 => ?_) (fun hb1987 => ?_)
        · replace ho1959 := cond_t hb1987 ho1959
          refine run_seq ?_
          refine run_region rfl ?_
          refine ops_ex rfl (guard_none rfl) rfl rfl (ex_assign rfl rfl) ?_
          refine ops_nil ?_
          refine at_then ?_
          refine run_ret ?_
          refine at_block_ret ?_
          refine at_then_ret ?_
          refine at_then_ret ?_
          refine at_block_ret ?_
          refine at_then_ret ?_
          have hR := Option.some.inj ho1959
          subst hR
          have hT := thn_inl H
          have hR := Option.some.inj hT
          subst hR
          exact at_ret1 rfl rfl ⟨_, rfl, rfl, HM⟩
        · replace ho1959 := cond_f hb1987 ho1959
          refine run_skip ?_
          refine at_block ?_
          refine at_then ?_
          refine run_region rfl ?_
          refine ops_ex rfl (guard_none rfl) rfl rfl (ex_move rfl rfl) ?_
          refine ops_ex rfl (guard_none rfl) rfl rfl (ex_add rfl rfl rfl) ?_
          refine ops_ex rfl (guard_none rfl) rfl rfl (ex_assign rfl rfl) ?_
          refine ops_nil ?_
          exact at_again k1977 (ρ1 := [(0, p0), (1, p1), (5, .int .i64 (wrap64 (a1968 + 1)))]) (Nat.lt_succ_self _) ⟨_, ho1959, rfl, HM⟩ (Sub.cons rfl (Sub.cons rfl (Sub.cons rfl Sub.nil)))
      · replace ho1959 := cond_f hb1979 ho1959
        refine run_exit ?_
        refine at_then_exit ?_
        refine at_then_exit ?_
        refine at_block_exit ?_
        exact at_mid (ρ' := []) ⟨(Option.some.inj ho1959), rfl, HM⟩ Sub.nil
    · rintro _ w1988 ⟨rfl, rfl, HM⟩
      replace H := (thn_inr H)
      refine run_seq ?_
      refine run_region rfl ?_
      refine ops_ex rfl (guard_none rfl) rfl rfl (ex_assign rfl rfl) ?_
      refine ops_nil ?_
      refine at_then ?_
      refine run_ret ?_
      have hR := Option.some.inj H
      subst hR
      exact at_ret1 rfl rfl ⟨_, rfl, rfl, HM⟩

def laws_eqLedger.f (k : Nat) (x0 : Ledger) (x1 : Ledger) : Option Bool := ((laws_eqStringS.f k x0.fTexts x1.fTexts).bind fun t2003 => (bif !t2003 then some false else ((laws_eqSignS.f k x0.fSigns x1.fSigns).bind fun t2007 => (bif !t2007 then some false else some true))))
theorem laws_eqLedger.calls {k : Nat} {x0 : Ledger} {x1 : Ledger} {p0_0 : Value} {p0_1 : Value} {p1_0 : Value} {p1_1 : Value} {w : World} (hp0_0 : RdS kStr w p0_0 x0.fTexts) (hp0_1 : RdS kSign w p0_1 x0.fSigns) (hp1_0 : RdS kStr w p1_0 x1.fTexts) (hp1_1 : RdS kSign w p1_1 x1.fSigns) {r : Bool} (H : laws_eqLedger.f k x0 x1 = some r) :
    Calls Try.prog 14 ([.agg #[p0_0, p0_1], .agg #[p1_0, p1_1]] : List Value).toArray w (fun e w_ => ∃ v, e = .returned v ∧ v = (.bool r) ∧ Mem w [] w_ []) := by
  have HM := Mem.start w
  refine calls_run (N := 17) Try.func14 rfl rfl rfl rfl ?_
  unfold laws_eqLedger.f at H
  refine run_seq ?_
  refine run_region rfl ?_
  refine ops_does rfl (guard_none rfl) rfl rfl (does_box (cs := [p0_0, p0_1]) rfl rfl rfl HM) ?_
  rintro _ w1998 ⟨b1992, rfl, HM⟩
  refine ops_does rfl (guard_none rfl) rfl rfl (does_box (cs := [p1_0, p1_1]) rfl rfl rfl HM) ?_
  rintro _ w1999 ⟨b1995, rfl, HM⟩
  refine ops_ex rfl (guard_none rfl) rfl rfl (ex_assign rfl rfl) ?_
  refine ops_nil ?_
  refine at_then ?_
  refine run_seq ?_
  refine run_seq ?_
  obtain ⟨t2003, h2004, H⟩ := bind_some H
  refine run_region rfl ?_
  refine ops_ex rfl (guard_none rfl) rfl rfl (ex_fieldAddr (off' := 0) rfl rfl Try.underlying29 rfl tsz22 rfl) ?_
  refine ops_ex rfl (guard_none rfl) rfl rfl (ex_load1 rfl rfl Try.underlying22 rfl ((HM.box_at 1 rfl) 0 _ rfl)) ?_
  refine ops_ex rfl (guard_none rfl) rfl rfl (ex_fieldAddr (off' := 0) rfl rfl Try.underlying29 rfl tsz22 rfl) ?_
  refine ops_ex rfl (guard_none rfl) rfl rfl (ex_load1 rfl rfl Try.underlying22 rfl ((HM.box_at 0 rfl) 0 _ rfl)) ?_
  refine ops_does rfl (guard_none rfl) rfl rfl (does_callk rfl callok67 rfl (laws_eqStringS.calls (x0 := x0.fTexts) (x1 := x1.fTexts) (HM.rd hp0_0) (HM.rd hp1_0) h2004)) ?_
  rintro _ w2005 ⟨rfl, hn⟩
  replace HM : Mem w [] w2005 [box b1995 29 [p1_0, p1_1], box b1992 29 [p0_0, p0_1]] := HM.call hn
  refine ops_ex rfl (guard_none rfl) rfl rfl (ex_not rfl rfl) ?_
  refine ops_nil ?_
  refine at_then ?_
  refine run_cond (b := !t2003) rfl (fun hb2006 => ?_) (fun hb2006 => ?_)
  · replace H := cond_t hb2006 H
    refine run_seq ?_
    refine run_region rfl ?_
    refine ops_ex rfl (guard_none rfl) rfl rfl (ex_assign rfl rfl) ?_
    refine ops_nil ?_
    refine at_then ?_
    refine run_ret ?_
    refine at_then_ret ?_
    replace HM := (HM.front 0 rfl rfl).drop
    replace HM := (HM.front 0 rfl rfl).drop
    have hR := Option.some.inj H
    subst hR
    exact at_ret1 rfl rfl ⟨_, rfl, rfl, HM⟩
  · replace H := cond_f hb2006 H
    refine run_skip ?_
    refine at_then ?_
    refine run_seq ?_
    refine run_seq ?_
    obtain ⟨t2007, h2008, H⟩ := bind_some H
    refine run_region rfl ?_
    refine ops_ex rfl (guard_none rfl) rfl rfl (ex_fieldAddr (off' := 1) rfl rfl Try.underlying29 rfl tsz27 rfl) ?_
    refine ops_ex rfl (guard_none rfl) rfl rfl (ex_load1 rfl rfl Try.underlying27 rfl ((HM.box_at 1 rfl) 1 _ rfl)) ?_
    refine ops_ex rfl (guard_none rfl) rfl rfl (ex_fieldAddr (off' := 1) rfl rfl Try.underlying29 rfl tsz27 rfl) ?_
    refine ops_ex rfl (guard_none rfl) rfl rfl (ex_load1 rfl rfl Try.underlying27 rfl ((HM.box_at 0 rfl) 1 _ rfl)) ?_
    refine ops_does rfl (guard_none rfl) rfl rfl (does_callk rfl callok68 rfl (laws_eqSignS.calls (x0 := x0.fSigns) (x1 := x1.fSigns) (HM.rd hp0_1) (HM.rd hp1_1) h2008)) ?_
    rintro _ w2009 ⟨rfl, hn⟩
    replace HM : Mem w [] w2009 [box b1995 29 [p1_0, p1_1], box b1992 29 [p0_0, p0_1]] := HM.call hn
    refine ops_ex rfl (guard_none rfl) rfl rfl (ex_not rfl rfl) ?_
    refine ops_nil ?_
    refine at_then ?_
    refine run_cond (b := !t2007) rfl (fun hb2010 => ?_) (fun hb2010 => ?_)
    · replace H := cond_t hb2010 H
      refine run_seq ?_
      refine run_region rfl ?_
      refine ops_ex rfl (guard_none rfl) rfl rfl (ex_assign rfl rfl) ?_
      refine ops_nil ?_
      refine at_then ?_
      refine run_ret ?_
      refine at_then_ret ?_
      replace HM := (HM.front 0 rfl rfl).drop
      replace HM := (HM.front 0 rfl rfl).drop
      have hR := Option.some.inj H
      subst hR
      exact at_ret1 rfl rfl ⟨_, rfl, rfl, HM⟩
    · replace H := cond_f hb2010 H
      refine run_skip ?_
      refine at_then ?_
      refine run_seq ?_
      refine run_region rfl ?_
      refine ops_ex rfl (guard_none rfl) rfl rfl (ex_assign rfl rfl) ?_
      refine ops_nil ?_
      refine at_then ?_
      refine run_ret ?_
      replace HM := (HM.front 0 rfl rfl).drop
      replace HM := (HM.front 0 rfl rfl).drop
      have hR := Option.some.inj H
      subst hR
      exact at_ret1 rfl rfl ⟨_, rfl, rfl, HM⟩

def laws_eqLedgerResult.f (k : Nat) (x0 : LedgerResult) (x1 : LedgerResult) : Option Bool := (bif (x0.fCode != x1.fCode) then some false else (bif (x0.fId != x1.fId) then some false else ((laws_eqLedger.f k x0.fLedger x1.fLedger).bind fun t2026 => (bif !t2026 then some false else some true))))
theorem laws_eqLedgerResult.calls {k : Nat} {x0 : LedgerResult} {x1 : LedgerResult} {p0_0 : Value} {p0_1 : Value} {p1_0 : Value} {p1_1 : Value} {w : World} (hp0_0 : RdS kStr w p0_0 x0.fLedger.fTexts) (hp0_1 : RdS kSign w p0_1 x0.fLedger.fSigns) (hp1_0 : RdS kStr w p1_0 x1.fLedger.fTexts) (hp1_1 : RdS kSign w p1_1 x1.fLedger.fSigns) {r : Bool} (H : laws_eqLedgerResult.f k x0 x1 = some r) :
    Calls Try.prog 13 ([.agg #[(.int .i64 x0.fCode), (.int .i64 x0.fId), p0_0, p0_1], .agg #[(.int .i64 x1.fCode), (.int .i64 x1.fId), p1_0, p1_1]] : List Value).toArray w (fun e w_ => ∃ v, e = .returned v ∧ v = (.bool r) ∧ Mem w [] w_ []) := by
  have HM := Mem.start w
  refine calls_run (N := 21) Try.func13 rfl rfl rfl rfl ?_
  unfold laws_eqLedgerResult.f at H
  refine run_seq ?_
  refine run_region rfl ?_
  refine ops_does rfl (guard_none rfl) rfl rfl (does_box (cs := [.int .i64 x0.fCode, .int .i64 x0.fId, p0_0, p0_1]) rfl rfl rfl HM) ?_
  rintro _ w2020 ⟨b2014, rfl, HM⟩
  refine ops_does rfl (guard_none rfl) rfl rfl (does_box (cs := [.int .i64 x1.fCode, .int .i64 x1.fId, p1_0, p1_1]) rfl rfl rfl HM) ?_
  rintro _ w2021 ⟨b2017, rfl, HM⟩
  refine ops_ex rfl (guard_none rfl) rfl rfl (ex_assign rfl rfl) ?_
  refine ops_nil ?_
  refine at_then ?_
  refine run_seq ?_
  refine run_seq ?_
  refine run_region rfl ?_
  refine ops_ex rfl (guard_none rfl) rfl rfl (ex_fieldAddr (off' := 0) rfl rfl Try.underlying31 rfl tsz2 rfl) ?_
  refine ops_ex rfl (guard_none rfl) rfl rfl (ex_load1 rfl rfl Try.underlying2 rfl ((HM.box_at 1 rfl) 0 _ rfl)) ?_
  refine ops_ex rfl (guard_none rfl) rfl rfl (ex_fieldAddr (off' := 0) rfl rfl Try.underlying31 rfl tsz2 rfl) ?_
  refine ops_ex rfl (guard_none rfl) rfl rfl (ex_load1 rfl rfl Try.underlying2 rfl ((HM.box_at 0 rfl) 0 _ rfl)) ?_
  refine ops_ex rfl (guard_none rfl) rfl rfl (ex_neq rfl rfl rfl) ?_
  refine ops_nil ?_
  refine at_then ?_
  refine run_cond (b := (x0.fCode != x1.fCode)) rfl (fun hb2023 => ?_) (fun hb2023 => ?_)
  · replace H := cond_t hb2023 H
    refine run_seq ?_
    refine run_region rfl ?_
    refine ops_ex rfl (guard_none rfl) rfl rfl (ex_assign rfl rfl) ?_
    refine ops_nil ?_
    refine at_then ?_
    refine run_ret ?_
    refine at_then_ret ?_
    replace HM := (HM.front 0 rfl rfl).drop
    replace HM := (HM.front 0 rfl rfl).drop
    have hR := Option.some.inj H
    subst hR
    exact at_ret1 rfl rfl ⟨_, rfl, rfl, HM⟩
  · replace H := cond_f hb2023 H
    refine run_skip ?_
    refine at_then ?_
    refine run_seq ?_
    refine run_seq ?_
    refine run_region rfl ?_
    refine ops_ex rfl (guard_none rfl) rfl rfl (ex_fieldAddr (off' := 1) rfl rfl Try.underlying31 rfl tsz2 rfl) ?_
    refine ops_ex rfl (guard_none rfl) rfl rfl (ex_load1 rfl rfl Try.underlying2 rfl ((HM.box_at 1 rfl) 1 _ rfl)) ?_
    refine ops_ex rfl (guard_none rfl) rfl rfl (ex_fieldAddr (off' := 1) rfl rfl Try.underlying31 rfl tsz2 rfl) ?_
    refine ops_ex rfl (guard_none rfl) rfl rfl (ex_load1 rfl rfl Try.underlying2 rfl ((HM.box_at 0 rfl) 1 _ rfl)) ?_
    refine ops_ex rfl (guard_none rfl) rfl rfl (ex_neq rfl rfl rfl) ?_
    refine ops_nil ?_
    refine at_then ?_
    refine run_cond (b := (x0.fId != x1.fId)) rfl (fun hb2025 => ?_) (fun hb2025 => ?_)
    · replace H := cond_t hb2025 H
      refine run_seq ?_
      refine run_region rfl ?_
      refine ops_ex rfl (guard_none rfl) rfl rfl (ex_assign rfl rfl) ?_
      refine ops_nil ?_
      refine at_then ?_
      refine run_ret ?_
      refine at_then_ret ?_
      replace HM := (HM.front 0 rfl rfl).drop
      replace HM := (HM.front 0 rfl rfl).drop
      have hR := Option.some.inj H
      subst hR
      exact at_ret1 rfl rfl ⟨_, rfl, rfl, HM⟩
    · replace H := cond_f hb2025 H
      refine run_skip ?_
      refine at_then ?_
      refine run_seq ?_
      refine run_seq ?_
      obtain ⟨t2026, h2027, H⟩ := bind_some H
      refine run_region rfl ?_
      refine ops_ex rfl (guard_none rfl) rfl rfl (ex_fieldAddr (off' := 2) rfl rfl Try.underlying31 rfl tsz29 rfl) ?_
      refine ops_ex rfl (guard_none rfl) rfl rfl (ex_loadN (cs := [p0_0, p0_1]) rfl rfl Try.underlying29 rfl tsz29 rfl ((HM.box_at 1 rfl).sub 2 2 rfl)) ?_
      refine ops_ex rfl (guard_none rfl) rfl rfl (ex_fieldAddr (off' := 2) rfl rfl Try.underlying31 rfl tsz29 rfl) ?_
      refine ops_ex rfl (guard_none rfl) rfl rfl (ex_loadN (cs := [p1_0, p1_1]) rfl rfl Try.underlying29 rfl tsz29 rfl ((HM.box_at 0 rfl).sub 2 2 rfl)) ?_
      refine ops_does rfl (guard_none rfl) rfl rfl (does_callk rfl callok14 rfl (laws_eqLedger.calls (x0 := x0.fLedger) (x1 := x1.fLedger) (HM.rd hp0_0) (HM.rd hp0_1) (HM.rd hp1_0) (HM.rd hp1_1) h2027)) ?_
      rintro _ w2028 ⟨rfl, hn⟩
      replace HM : Mem w [] w2028 [box b2017 31 [.int .i64 x1.fCode, .int .i64 x1.fId, p1_0, p1_1], box b2014 31 [.int .i64 x0.fCode, .int .i64 x0.fId, p0_0, p0_1]] := HM.call hn
      refine ops_ex rfl (guard_none rfl) rfl rfl (ex_not rfl rfl) ?_
      refine ops_nil ?_
      refine at_then ?_
      refine run_cond (b := !t2026) rfl (fun hb2029 => ?_) (fun hb2029 => ?_)
      · replace H := cond_t hb2029 H
        refine run_seq ?_
        refine run_region rfl ?_
        refine ops_ex rfl (guard_none rfl) rfl rfl (ex_assign rfl rfl) ?_
        refine ops_nil ?_
        refine at_then ?_
        refine run_ret ?_
        refine at_then_ret ?_
        replace HM := (HM.front 0 rfl rfl).drop
        replace HM := (HM.front 0 rfl rfl).drop
        have hR := Option.some.inj H
        subst hR
        exact at_ret1 rfl rfl ⟨_, rfl, rfl, HM⟩
      · replace H := cond_f hb2029 H
        refine run_skip ?_
        refine at_then ?_
        refine run_seq ?_
        refine run_region rfl ?_
        refine ops_ex rfl (guard_none rfl) rfl rfl (ex_assign rfl rfl) ?_
        refine ops_nil ?_
        refine at_then ?_
        refine run_ret ?_
        replace HM := (HM.front 0 rfl rfl).drop
        replace HM := (HM.front 0 rfl rfl).drop
        have hR := Option.some.inj H
        subst hR
        exact at_ret1 rfl rfl ⟨_, rfl, rfl, HM⟩

def laws_markText.l0  : Nat → Int → ByteArray → Option ByteArray
  | 0, _, _ => none
  | k + 1, a2122, a2123 => (bif (decide (0 < a2122)) then (chk ((10 : Int) != 0) (chk (leB ((strOfNums ([IntKind.u8.wrap (wrap64 (48 + (Int.tmod a2122 (10 : Int))))] : List Int)).size + a2123.size) 9223372036854775807) (chk ((10 : Int) != 0) (laws_markText.l0 k (IntKind.i64.wrap (Int.tdiv a2122 (10 : Int))) ((strOfNums ([IntKind.u8.wrap (wrap64 (48 + (Int.tmod a2122 (10 : Int))))] : List Int)) ++ a2123))))) else some a2123)
theorem laws_markText.l0_z  (a2122 : Int) (a2123 : ByteArray) : laws_markText.l0 0 a2122 a2123 = none := rfl
theorem laws_markText.l0_s  (k : Nat) (a2122 : Int) (a2123 : ByteArray) : laws_markText.l0 (k + 1) a2122 a2123 = (bif (decide (0 < a2122)) then (chk ((10 : Int) != 0) (chk (leB ((strOfNums ([IntKind.u8.wrap (wrap64 (48 + (Int.tmod a2122 (10 : Int))))] : List Int)).size + a2123.size) 9223372036854775807) (chk ((10 : Int) != 0) (laws_markText.l0 k (IntKind.i64.wrap (Int.tdiv a2122 (10 : Int))) ((strOfNums ([IntKind.u8.wrap (wrap64 (48 + (Int.tmod a2122 (10 : Int))))] : List Int)) ++ a2123))))) else some a2123) := rfl
def laws_markText.f (k : Nat) (x0 : Int) : Option ByteArray := (bif (decide (x0 ≤ 0)) then some (⟨#[109, 48]⟩ : ByteArray) else ((laws_markText.l0 k x0 (⟨#[]⟩ : ByteArray)).bind (fun a2112 => (chk (leB ((⟨#[109]⟩ : ByteArray).size + a2112.size) 9223372036854775807) (some ((⟨#[109]⟩ : ByteArray) ++ a2112))))))
theorem laws_markText.calls {k : Nat} {x0 : Int}  {w : World}  {r : ByteArray} (H : laws_markText.f k x0 = some r) :
    Calls Try.prog 118 ([.int .i64 x0] : List Value).toArray w (fun e w_ => ∃ v, e = .returned v ∧ v = (.string r) ∧ Mem w [] w_ []) := by
  have HM := Mem.start w
  refine calls_run (N := 20) Try.func118 rfl rfl rfl rfl ?_
  unfold laws_markText.f at H
  refine run_seq ?_
  refine run_region rfl ?_
  refine ops_ex rfl (guard_none rfl) rfl rfl (ex_assign rfl rfl) ?_
  refine ops_nil ?_
  refine at_then ?_
  refine run_seq ?_
  refine run_seq ?_
  refine run_region rfl ?_
  refine ops_ex rfl (guard_none rfl) rfl rfl (ex_move rfl rfl) ?_
  refine ops_ex rfl (guard_none rfl) rfl rfl (ex_leq rfl rfl rfl) ?_
  refine ops_nil ?_
  refine at_then ?_
  refine run_cond (b := (decide (x0 ≤ 0))) rfl (fun hb2088 => ?_) (fun hb2088 => ?_)
  · replace H := cond_t hb2088 H
    refine run_seq ?_
    refine run_region rfl ?_
    refine ops_ex rfl (guard_none rfl) rfl rfl (ex_assign rfl rfl) ?_
    refine ops_nil ?_
    refine at_then ?_
    refine run_ret ?_
    refine at_then_ret ?_
    have hR := Option.some.inj H
    subst hR
    exact at_ret1 rfl rfl ⟨_, rfl, rfl, HM⟩
  · replace H := cond_f hb2088 H
    refine run_skip ?_
    refine at_then ?_
    refine run_seq ?_
    refine run_region rfl ?_
    refine ops_ex rfl (guard_none rfl) rfl rfl (ex_assign rfl rfl) ?_
    refine ops_nil ?_
    refine at_then ?_
    obtain ⟨o2113, ho2114, H⟩ := bind_some H
    refine run_mid (fun ρ_ w_ => ∃ a2112 : ByteArray, a2112 = o2113 ∧ ρ_ = [(3, .string a2112)] ∧ Mem w [] w_ []) ?_ ?_
    · clear H
      refine run_block ?_
      refine run_loop (fun k_ ρ_ w_ => ∃ a2122 : Int, ∃ a2123 : ByteArray, laws_markText.l0 k_ a2122 a2123 = some o2113 ∧ ρ_ = [(0, .int .i64 a2122), (3, .string a2123)] ∧ Mem w [] w_ []) k (ρ1 := [(0, .int .i64 x0), (3, .string (⟨#[]⟩ : ByteArray))]) ⟨_, _, ho2114, rfl, HM⟩ (Sub.cons rfl (Sub.cons rfl Sub.nil)) ?_
      clear HM ho2114
      rintro k2131 _ w2132 ⟨a2122, a2123, ho2114, rfl, HM⟩
      obtain _ | k2131 := k2131
      · exact nomatch ((laws_markText.l0_z a2122 a2123).symm.trans ho2114)
      replace ho2114 := (laws_markText.l0_s k2131 a2122 a2123).symm.trans ho2114
      refine run_seq ?_
      refine run_seq ?_
      refine run_region rfl ?_
      refine ops_ex rfl (guard_none rfl) rfl rfl (ex_move rfl rfl) ?_
      refine ops_ex rfl (guard_none rfl) rfl rfl (ex_gtr rfl rfl rfl) ?_
      refine ops_nil ?_
      refine at_then ?_
      refine run_cond (b := (decide (0 < a2122))) rfl (fun hb2133 => ?_) (fun hb2133 => ?_)
      · replace ho2114 := cond_t hb2133 ho2114
        refine run_skip ?_
        refine at_then ?_
        refine run_block ?_
        refine run_seq ?_
        obtain ⟨e2134, ho2114⟩ := chk_some ho2114
        obtain ⟨e2138, ho2114⟩ := chk_some ho2114
        refine run_region rfl ?_
        refine ops_ex rfl (guard_none rfl) rfl rfl (ex_move rfl rfl) ?_
        refine ops_ex rfl (guard_none rfl) rfl rfl (ex_remk rfl rfl rfl e2134) ?_
        refine ops_ex rfl (guard_none rfl) rfl rfl (ex_add rfl rfl rfl) ?_
        refine ops_ex rfl (guard_none rfl) rfl rfl (ex_conv rfl rfl (by rw [Try.underlying3]; rfl) Try.underlying5) ?_
        refine ops_does rfl (guard_none rfl) rfl rfl (does_lit (e := 5) (cs := [.int .u8 (IntKind.u8.wrap (wrap64 (48 + (Int.tmod a2122 (10 : Int)))))]) (xs := ([IntKind.u8.wrap (wrap64 (48 + (Int.tmod a2122 (10 : Int))))] : List Int)) kU8 rfl rfl (fun _ => by kernel_rfl) rfl rfl (fun _ _ h => by have h' : _ = [] := h; subst h'; exact (Elems.cons (d := kU8) (f := []) ⟨rfl, rfl⟩ .nil)) HM.emp) ?_
        rintro v2135 w2139 HM
        refine ops_ex rfl (guard_none rfl) rfl rfl (ex_bstr (e := 5) rfl rfl Try.underlying198 Try.underlying5 Try.underlying9 (HM.own_rd 0 rfl)) ?_
        refine ops_ex rfl (guard_none rfl) rfl rfl (ex_move rfl rfl) ?_
        refine ops_ex rfl (guard_none rfl) rfl rfl (ex_sadd rfl rfl rfl (leB_le e2138)) ?_
        refine ops_ex rfl (guard_none rfl) rfl rfl (ex_assign rfl rfl) ?_
        refine ops_nil ?_
        refine at_then ?_
        obtain ⟨e2140, ho2114⟩ := chk_some ho2114
        refine run_region rfl ?_
        refine ops_ex rfl (guard_none rfl) rfl rfl (ex_move rfl rfl) ?_
        refine ops_ex rfl (guard_none rfl) rfl rfl (ex_quok rfl rfl rfl e2140) ?_
        refine ops_ex rfl (guard_none rfl) rfl rfl (ex_assign rfl rfl) ?_
        refine ops_nil ?_
        refine at_block ?_
        replace HM := (HM.front 0 rfl rfl).drop
        exact at_again k2131 (ρ1 := [(0, .int .i64 (IntKind.i64.wrap (Int.tdiv a2122 (10 : Int)))), (3, .string ((strOfNums ([IntKind.u8.wrap (wrap64 (48 + (Int.tmod a2122 (10 : Int))))] : List Int)) ++ a2123))]) (Nat.lt_succ_self _) ⟨_, _, ho2114, rfl, HM⟩ (Sub.cons rfl (Sub.cons rfl Sub.nil))
      · replace ho2114 := cond_f hb2133 ho2114
        refine run_exit ?_
        refine at_then_exit ?_
        refine at_then_exit ?_
        refine at_block_exit ?_
        exact at_mid (ρ' := [(3, .string a2123)]) ⟨_, (Option.some.inj ho2114), rfl, HM⟩ (Sub.cons rfl Sub.nil)
    · rintro _ w2141 ⟨a2112, rfl, rfl, HM⟩
      refine run_seq ?_
      obtain ⟨e2142, H⟩ := chk_some H
      refine run_region rfl ?_
      refine ops_ex rfl (guard_none rfl) rfl rfl (ex_move rfl rfl) ?_
      refine ops_ex rfl (guard_none rfl) rfl rfl (ex_sadd rfl rfl rfl (leB_le e2142)) ?_
      refine ops_ex rfl (guard_none rfl) rfl rfl (ex_assign rfl rfl) ?_
      refine ops_nil ?_
      refine at_then ?_
      refine run_ret ?_
      have hR := Option.some.inj H
      subst hR
      exact at_ret1 rfl rfl ⟨_, rfl, rfl, HM⟩
end Go.Proofs.Ytigojhglkilodaa.Zk
