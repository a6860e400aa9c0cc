/- What functions of the program compute, each as a plain function, and that they do. Conditions: as each theorem states them. -/
import Derived.Test.YtmaolhocmkkmjaaGreatDoorFnTextsZkF1
namespace Go.Proofs.YtmaolhocmkkmjaaGreatDoor.Zk
open Go Go.RowKit Go.IntWalk Go.Proofs
set_option linter.unusedVariables false
set_option linter.unusedSimpArgs false
set_option maxRecDepth 100000
set_option maxHeartbeats 4000000
def spec_l3Swap.l0 (x1 : Int) (x2 : Int) : Nat → (List Int) → Int → Option ((List Int))
  | 0, _, _ => none
  | k + 1, a1644, a1646 => (bif (decide (a1646 < (a1644.length : Int))) then (chk (idxOk a1646 a1644.length) (bif ((gt a1644 a1646) == x1) then (chk (idxOk a1646 a1644.length) (spec_l3Swap.l0 x1 x2 k (a1644.set (a1646).toNat x2) (wrap64 (a1646 + 1)))) else spec_l3Swap.l0 x1 x2 k a1644 (wrap64 (a1646 + 1)))) else some a1644)
theorem spec_l3Swap.l0_z (x1 : Int) (x2 : Int) (a1644 : List Int) (a1646 : Int) : spec_l3Swap.l0 x1 x2 0 a1644 a1646 = none := rfl
theorem spec_l3Swap.l0_s (x1 : Int) (x2 : Int) (k : Nat) (a1644 : List Int) (a1646 : Int) : spec_l3Swap.l0 x1 x2 (k + 1) a1644 a1646 = (bif (decide (a1646 < (a1644.length : Int))) then (chk (idxOk a1646 a1644.length) (bif ((gt a1644 a1646) == x1) then (chk (idxOk a1646 a1644.length) (spec_l3Swap.l0 x1 x2 k (a1644.set (a1646).toNat x2) (wrap64 (a1646 + 1)))) else spec_l3Swap.l0 x1 x2 k a1644 (wrap64 (a1646 + 1)))) else some a1644) := rfl
def spec_l3Swap.f (k : Nat) (x0 : ByteArray) (x1 : Int) (x2 : Int) : Option ByteArray := ((spec_l3Swap.l0 x1 x2 k (strNums x0) 0).bind (fun a1635 => some (strOfNums a1635)))
theorem spec_l3Swap.calls {k : Nat} {x0 : ByteArray} {x1 : Int} {x2 : Int}  {w : World}  {r : ByteArray} (H : spec_l3Swap.f k x0 x1 x2 = some r) :
    Calls Tryz.prog 40 ([.string x0, .int .u8 x1, .int .u8 x2] : List Value).toArray w (fun e w_ => ∃ v, e = .returned v ∧ v = (.string r) ∧ Mem w [] w_ []) := by
  have HM := Mem.start w
  refine calls_run (N := 29) Tryz.func40 rfl rfl rfl rfl ?_
  unfold spec_l3Swap.f at H
  refine run_seq ?_
  refine run_region rfl ?_
  refine ox rfl rfl rfl rfl (ex_assign rfl rfl) ?_
  refine ops_nil (at_then (run_seq ?_))
  refine run_region rfl ?_
  refine ox rfl rfl rfl rfl (ex_move rfl rfl) ?_
  refine od rfl rfl rfl rfl (does_sbytes (e := 5) rfl rfl Tryz.underlying9 Tryz.underlying22 Tryz.underlying5 HM) ?_
  rintro v1615 w1617 HM
  refine ox rfl rfl rfl rfl (ex_assign rfl rfl) ?_
  refine ops_nil (at_then ?_)
  obtain ⟨o1637, ho1638, H⟩ := bind_some H
  refine run_mid (fun ρ_ w_ => ∃ v1634 : Value, ∃ a1635 : List Int, a1635 = o1637 ∧ ρ_ = [(7, v1634)] ∧ Mem w [] w_ [brow 5 v1634 a1635]) ?_ ?_
  · clear H
    refine run_seq ?_
    refine run_region rfl ?_
    refine ox rfl rfl rfl rfl (ex_assign rfl rfl) ?_
    refine ops_nil (at_then ?_)
    refine run_block ?_
    refine run_loop (fun k_ ρ_ w_ => ∃ v1643 : Value, ∃ a1644 : List Int, ∃ a1646 : Int, spec_l3Swap.l0 x1 x2 k_ a1644 a1646 = some o1637 ∧ ρ_ = [(1, .int .u8 x1), (2, .int .u8 x2), (7, v1643), (8, .int .i64 a1646)] ∧ Mem w [] w_ [brow 5 v1643 a1644]) k (ρ1 := [(1, .int .u8 x1), (2, .int .u8 x2), (7, v1615), (8, .int .i64 0)]) ⟨_, _, _, ho1638, rfl, HM⟩ (Sub.cons rfl (Sub.cons rfl (Sub.cons rfl (Sub.cons rfl Sub.nil)))) ?_
    clear HM ho1638
    rintro k1651 _ w1652 ⟨v1643, a1644, a1646, ho1638, rfl, HM⟩
    obtain _ | k1651 := k1651
    · exact nomatch ((spec_l3Swap.l0_z x1 x2 a1644 a1646).symm.trans ho1638)
    replace ho1638 := (spec_l3Swap.l0_s x1 x2 k1651 a1644 a1646).symm.trans ho1638
    refine run_seq ?_
    refine run_seq ?_
    refine run_region rfl ?_
    refine ox rfl rfl rfl rfl (ex_move rfl rfl) ?_
    refine ox rfl rfl rfl rfl (ex_move rfl rfl) ?_
    refine ox rfl rfl rfl rfl (ex_len (d := kU8) (xs := a1644) rfl rfl Tryz.underlying22 (HM.brow_rd (hl := fun _ => rfl) (h1 := fun _ => onesC rfl onesN) 0 rfl)) ?_
    refine ox rfl rfl rfl rfl (ex_lss rfl rfl rfl) ?_
    refine ops_nil (at_then ?_)
    refine run_cond (b := (decide (a1646 < (a1644.length : Int)))) rfl (fun hb1653 => ?_) (fun hb1653 => ?_)
    · replace ho1638 := cond_t hb1653 ho1638
      refine run_skip ?_
      refine at_then ?_
      refine run_seq ?_
      refine run_block ?_
      refine run_seq ?_
      obtain ⟨e1654, ho1638⟩ := chk_some ho1638
      refine run_region rfl ?_
      refine ox rfl rfl rfl rfl (ex_move rfl rfl) ?_
      refine ox rfl rfl rfl rfl (ex_move rfl rfl) ?_
      refine ox rfl rfl rfl rfl (ex_indexAddr (d := kU8) rfl rfl rfl Tryz.underlying22 tsz5 (HM.brow_rd (hl := fun _ => rfl) (h1 := fun _ => onesC rfl onesN) 0 rfl) (idx_lo e1654) (idx_hi e1654)) ?_
      refine ox rfl rfl rfl rfl (ex_load1 rfl rfl Tryz.underlying5 rfl ((rd_plain (HM.brow_rd (hl := fun _ => rfl) (h1 := fun _ => onesC rfl onesN) 0 rfl) e1654) 0 _ rfl)) ?_
      refine ox rfl rfl rfl rfl (ex_move rfl rfl) ?_
      refine ox rfl rfl rfl rfl (ex_eql rfl rfl rfl) ?_
      refine ops_nil (at_then ?_)
      refine run_cond (b := ((gt a1644 a1646) == x1)) rfl (fun hb1655 => ?_) (fun hb1655 => ?_)
      · replace ho1638 := cond_t hb1655 ho1638
        obtain ⟨e1656, ho1638⟩ := chk_some ho1638
        refine run_region rfl ?_
        refine ox rfl rfl rfl rfl (ex_move rfl rfl) ?_
        refine ox rfl rfl rfl rfl (ex_move rfl rfl) ?_
        refine ox rfl rfl rfl rfl (ex_move rfl rfl) ?_
        refine ox rfl rfl rfl rfl (ex_indexAddr (d := kU8) rfl rfl rfl Tryz.underlying22 tsz5 (HM.brow_rd (hl := fun _ => rfl) (h1 := fun _ => onesC rfl onesN) 0 rfl) (idx_lo e1656) (idx_hi e1656)) ?_
        refine odS rfl rfl rfl (does_setB rfl rfl rfl rfl tsz5 (idx_nat e1656) HM) ?_
        rintro w1657 HM
        refine ops_nil ?_
        refine at_block ?_
        refine at_then ?_
        refine run_region rfl ?_
        refine ox rfl rfl rfl rfl (ex_move rfl rfl) ?_
        refine ox rfl rfl rfl rfl (ex_add rfl rfl rfl) ?_
        refine ox rfl rfl rfl rfl (ex_assign rfl rfl) ?_
        refine ops_nil ?_
        exact at_again k1651 (ρ1 := [(1, .int .u8 x1), (2, .int .u8 x2), (7, v1643), (8, .int .i64 (wrap64 (a1646 + 1)))]) (Nat.lt_succ_self _) ⟨_, _, _, ho1638, rfl, HM⟩ (Sub.cons rfl (Sub.cons rfl (Sub.cons rfl (Sub.cons rfl Sub.nil))))
      · replace ho1638 := cond_f hb1655 ho1638
        refine run_skip ?_
        refine at_block ?_
        refine at_then ?_
        refine run_region rfl ?_
        refine ox rfl rfl rfl rfl (ex_move rfl rfl) ?_
        refine ox rfl rfl rfl rfl (ex_add rfl rfl rfl) ?_
        refine ox rfl rfl rfl rfl (ex_assign rfl rfl) ?_
        refine ops_nil ?_
        exact at_again k1651 (ρ1 := [(1, .int .u8 x1), (2, .int .u8 x2), (7, v1643), (8, .int .i64 (wrap64 (a1646 + 1)))]) (Nat.lt_succ_self _) ⟨_, _, _, ho1638, rfl, HM⟩ (Sub.cons rfl (Sub.cons rfl (Sub.cons rfl (Sub.cons rfl Sub.nil))))
    · replace ho1638 := cond_f hb1653 ho1638
      refine run_exit ?_
      refine at_then_exit ?_
      refine at_then_exit ?_
      refine at_block_exit ?_
      exact at_mid (ρ' := [(7, v1643)]) ⟨_, _, (Option.some.inj ho1638), rfl, HM⟩ (Sub.cons rfl Sub.nil)
  · rintro _ w1658 ⟨v1634, a1635, rfl, rfl, HM⟩
    refine run_seq ?_
    refine run_region rfl ?_
    refine ox rfl rfl rfl rfl (ex_move rfl rfl) ?_
    refine ox rfl rfl rfl rfl (ex_bstr (e := 5) rfl rfl Tryz.underlying22 Tryz.underlying5 Tryz.underlying9 (HM.brow_rd (hl := fun _ => rfl) (h1 := fun _ => onesC rfl onesN) 0 rfl)) ?_
    refine ox rfl rfl rfl rfl (ex_assign rfl rfl) ?_
    refine ops_nil (at_then ?_)
    refine run_ret ?_
    replace HM := (HM.front 0 rfl rfl).drop
    have hR := Option.some.inj H
    subst hR
    exact at_ret1 rfl rfl ⟨_, rfl, rfl, HM⟩

def spec_l3Text.l0 (x0 : Tx) : Nat → ByteArray → Int → Option ByteArray
  | 0, _, _ => none
  | k + 1, a1804, a1805 => (bif (decide (a1805 < (x0.fIns.length : Int))) then ((bif (a1805 == 0) then some (⟨#[32]⟩ : ByteArray) else some (⟨#[43]⟩ : ByteArray)).bind (fun a1829 => (chk (leB (a1804.size + a1829.size) 9223372036854775807) (chk (idxOk a1805 x0.fIns.length) (chk (idxOk a1805 x0.fIns.length) ((spec_l2Digits.f k ((gt x0.fIns a1805).fTx)).bind fun t1839 => (chk (leB ((a1804 ++ a1829).size + t1839.size) 9223372036854775807) (chk (leB (((a1804 ++ a1829) ++ t1839).size + (⟨#[58]⟩ : ByteArray).size) 9223372036854775807) ((spec_l2Digits.f k ((gt x0.fIns a1805).fAt)).bind fun t1843 => (chk (leB ((((a1804 ++ a1829) ++ t1839) ++ (⟨#[58]⟩ : ByteArray)).size + t1843.size) 9223372036854775807) (spec_l3Text.l0 x0 k ((((a1804 ++ a1829) ++ t1839) ++ (⟨#[58]⟩ : ByteArray)) ++ t1843) (wrap64 (a1805 + 1))))))))))))) else some a1804)
theorem spec_l3Text.l0_z (x0 : Tx) (a1804 : ByteArray) (a1805 : Int) : spec_l3Text.l0 x0 0 a1804 a1805 = none := rfl
theorem spec_l3Text.l0_s (x0 : Tx) (k : Nat) (a1804 : ByteArray) (a1805 : Int) : spec_l3Text.l0 x0 (k + 1) a1804 a1805 = (bif (decide (a1805 < (x0.fIns.length : Int))) then ((bif (a1805 == 0) then some (⟨#[32]⟩ : ByteArray) else some (⟨#[43]⟩ : ByteArray)).bind (fun a1829 => (chk (leB (a1804.size + a1829.size) 9223372036854775807) (chk (idxOk a1805 x0.fIns.length) (chk (idxOk a1805 x0.fIns.length) ((spec_l2Digits.f k ((gt x0.fIns a1805).fTx)).bind fun t1839 => (chk (leB ((a1804 ++ a1829).size + t1839.size) 9223372036854775807) (chk (leB (((a1804 ++ a1829) ++ t1839).size + (⟨#[58]⟩ : ByteArray).size) 9223372036854775807) ((spec_l2Digits.f k ((gt x0.fIns a1805).fAt)).bind fun t1843 => (chk (leB ((((a1804 ++ a1829) ++ t1839) ++ (⟨#[58]⟩ : ByteArray)).size + t1843.size) 9223372036854775807) (spec_l3Text.l0 x0 k ((((a1804 ++ a1829) ++ t1839) ++ (⟨#[58]⟩ : ByteArray)) ++ t1843) (wrap64 (a1805 + 1))))))))))))) else some a1804) := rfl
def spec_l3Text.l1 (x0 : Tx) : Nat → ByteArray → Int → Option ByteArray
  | 0, _, _ => none
  | k + 1, a1930, a1931 => (bif (decide (a1931 < (x0.fOuts.length : Int))) then (chk (leB (a1930.size + (⟨#[32]⟩ : ByteArray).size) 9223372036854775807) (chk (idxOk a1931 x0.fOuts.length) (chk (idxOk a1931 x0.fOuts.length) ((spec_l2Digits.f k ((gt x0.fOuts a1931).fValue)).bind fun t1963 => (chk (leB ((a1930 ++ (⟨#[32]⟩ : ByteArray)).size + t1963.size) 9223372036854775807) (chk (leB (((a1930 ++ (⟨#[32]⟩ : ByteArray)) ++ t1963).size + (⟨#[61]⟩ : ByteArray).size) 9223372036854775807) ((spec_l2Text.f k ((gt x0.fOuts a1931).fRule)).bind fun t1967 => ((spec_l3Swap.f k t1967 32 95).bind fun t1969 => (chk (leB ((((a1930 ++ (⟨#[32]⟩ : ByteArray)) ++ t1963) ++ (⟨#[61]⟩ : ByteArray)).size + t1969.size) 9223372036854775807) (spec_l3Text.l1 x0 k ((((a1930 ++ (⟨#[32]⟩ : ByteArray)) ++ t1963) ++ (⟨#[61]⟩ : ByteArray)) ++ t1969) (wrap64 (a1931 + 1)))))))))))) else some a1930)
theorem spec_l3Text.l1_z (x0 : Tx) (a1930 : ByteArray) (a1931 : Int) : spec_l3Text.l1 x0 0 a1930 a1931 = none := rfl
theorem spec_l3Text.l1_s (x0 : Tx) (k : Nat) (a1930 : ByteArray) (a1931 : Int) : spec_l3Text.l1 x0 (k + 1) a1930 a1931 = (bif (decide (a1931 < (x0.fOuts.length : Int))) then (chk (leB (a1930.size + (⟨#[32]⟩ : ByteArray).size) 9223372036854775807) (chk (idxOk a1931 x0.fOuts.length) (chk (idxOk a1931 x0.fOuts.length) ((spec_l2Digits.f k ((gt x0.fOuts a1931).fValue)).bind fun t1963 => (chk (leB ((a1930 ++ (⟨#[32]⟩ : ByteArray)).size + t1963.size) 9223372036854775807) (chk (leB (((a1930 ++ (⟨#[32]⟩ : ByteArray)) ++ t1963).size + (⟨#[61]⟩ : ByteArray).size) 9223372036854775807) ((spec_l2Text.f k ((gt x0.fOuts a1931).fRule)).bind fun t1967 => ((spec_l3Swap.f k t1967 32 95).bind fun t1969 => (chk (leB ((((a1930 ++ (⟨#[32]⟩ : ByteArray)) ++ t1963) ++ (⟨#[61]⟩ : ByteArray)).size + t1969.size) 9223372036854775807) (spec_l3Text.l1 x0 k ((((a1930 ++ (⟨#[32]⟩ : ByteArray)) ++ t1963) ++ (⟨#[61]⟩ : ByteArray)) ++ t1969) (wrap64 (a1931 + 1)))))))))))) else some a1930) := rfl
def spec_l3Text.f (k : Nat) (x0 : Tx) : Option ByteArray := (chk (idxOk x0.fKind ([(⟨#[112, 97, 121]⟩ : ByteArray), (⟨#[106, 111, 105, 110, 32]⟩ : ByteArray), (⟨#[108, 101, 97, 118, 101, 32]⟩ : ByteArray)] : List ByteArray).length) ((bif (x0.fKind != 0) then ((spec_l2Digits.f k x0.fMember).bind fun t1722 => (chk (leB ((gt ([(⟨#[112, 97, 121]⟩ : ByteArray), (⟨#[106, 111, 105, 110, 32]⟩ : ByteArray), (⟨#[108, 101, 97, 118, 101, 32]⟩ : ByteArray)] : List ByteArray) x0.fKind).size + t1722.size) 9223372036854775807) (some ((gt ([(⟨#[112, 97, 121]⟩ : ByteArray), (⟨#[106, 111, 105, 110, 32]⟩ : ByteArray), (⟨#[108, 101, 97, 118, 101, 32]⟩ : ByteArray)] : List ByteArray) x0.fKind) ++ t1722)))) else some (gt ([(⟨#[112, 97, 121]⟩ : ByteArray), (⟨#[106, 111, 105, 110, 32]⟩ : ByteArray), (⟨#[108, 101, 97, 118, 101, 32]⟩ : ByteArray)] : List ByteArray) x0.fKind)).bind (fun a1718 => ((spec_l3Text.l0 x0 k a1718 0).bind (fun a1783 => ((spec_l3Text.l1 x0 k a1783 0).bind (fun a1908 => some a1908)))))))
theorem spec_l3Text.calls {k : Nat} {x0 : Tx} {b0 f0 : Nat} {p0_0 : Value} {p0_1 : Value} {w : World} (hc0 : CellsAt w b0 f0 [.int .i64 x0.fKind, .int .i64 x0.fMember, p0_0, p0_1]) (hp0_0 : RdS kRef w p0_0 x0.fIns) (hp0_1 : RdS kOut w p0_1 x0.fOuts) {r : ByteArray} (H : spec_l3Text.f k x0 = some r) :
    Calls Tryz.prog 18 ([.pointer (some ⟨b0, f0, none⟩)] : List Value).toArray w (fun e w_ => ∃ v, e = .returned v ∧ v = (.string r) ∧ Mem w [] w_ []) := by
  have HM := Mem.start w
  refine calls_run (N := 94) Tryz.func18 rfl rfl rfl rfl ?_
  unfold spec_l3Text.f at H
  refine run_seq ?_
  refine run_region rfl ?_
  refine ox rfl rfl rfl rfl (ex_assign rfl rfl) ?_
  refine ops_nil (at_then (run_seq ?_))
  obtain ⟨e1708, H⟩ := chk_some H
  refine run_region rfl ?_
  refine od rfl rfl rfl rfl (does_lit (e := 9) (cs := [.string (⟨#[112, 97, 121]⟩ : ByteArray), .string (⟨#[106, 111, 105, 110, 32]⟩ : ByteArray), .string (⟨#[108, 101, 97, 118, 101, 32]⟩ : ByteArray)]) (xs := ([(⟨#[112, 97, 121]⟩ : ByteArray), (⟨#[106, 111, 105, 110, 32]⟩ : ByteArray), (⟨#[108, 101, 97, 118, 101, 32]⟩ : ByteArray)] : List ByteArray)) kStr rfl rfl (fun _ => by kernel_rfl) rfl rfl (fun _ _ h => by have h' : _ = [] := h; subst h'; exact (Elems.cons (d := kStr) (x := (⟨#[112, 97, 121]⟩ : ByteArray)) (f := []) ⟨rfl, rfl⟩ (Elems.cons (d := kStr) (x := (⟨#[106, 111, 105, 110, 32]⟩ : ByteArray)) (f := []) ⟨rfl, rfl⟩ (Elems.cons (d := kStr) (x := (⟨#[108, 101, 97, 118, 101, 32]⟩ : ByteArray)) (f := []) ⟨rfl, rfl⟩ .nil)))) HM.emp) ?_
  rintro v1705 w1709 HM
  refine ox rfl rfl rfl rfl (ex_move rfl rfl) ?_
  refine ox rfl rfl rfl rfl (ex_nilCheck rfl rfl) ?_
  refine ox rfl rfl rfl rfl (ex_fieldAddr (off' := f0) rfl rfl Tryz.underlying28 rfl tsz2 rfl) ?_
  refine ox rfl rfl rfl rfl (ex_load1 rfl rfl Tryz.underlying2 rfl ((HM.at_ hc0) 0 _ rfl)) ?_
  refine ox rfl rfl rfl rfl (ex_indexAddr (d := kStr) rfl rfl rfl Tryz.underlying72 tsz9 (HM.own_rd 0 rfl) (idx_lo e1708) (idx_hi e1708)) ?_
  refine ox rfl rfl rfl rfl (ex_load1 rfl rfl Tryz.underlying9 rfl ((rd_plain (HM.own_rd 0 rfl) e1708) 0 _ rfl)) ?_
  refine ox rfl rfl rfl rfl (ex_assign rfl rfl) ?_
  refine ops_nil (at_then ?_)
  obtain ⟨o1719, ho1720, H⟩ := bind_some H
  refine run_mid (fun ρ_ w_ => ∃ a1718 : ByteArray, a1718 = o1719 ∧ ρ_ = [(0, .pointer (some ⟨b0, f0, none⟩)), (3, .string a1718)] ∧ Mem w [] w_ []) ?_ ?_
  · clear H
    refine run_seq ?_
    refine run_region rfl ?_
    refine ox rfl rfl rfl rfl (ex_move rfl rfl) ?_
    refine ox rfl rfl rfl rfl (ex_nilCheck rfl rfl) ?_
    refine ox rfl rfl rfl rfl (ex_fieldAddr (off' := f0) rfl rfl Tryz.underlying28 rfl tsz2 rfl) ?_
    refine ox rfl rfl rfl rfl (ex_load1 rfl rfl Tryz.underlying2 rfl ((HM.at_ hc0) 0 _ rfl)) ?_
    refine ox rfl rfl rfl rfl (ex_neq rfl rfl rfl) ?_
    refine ops_nil (at_then ?_)
    refine run_cond (b := (x0.fKind != 0)) rfl (fun hb1721 => ?_) (fun hb1721 => ?_)
    · replace ho1720 := cond_t hb1721 ho1720
      obtain ⟨t1722, h1723, ho1720⟩ := bind_some ho1720
      obtain ⟨e1724, ho1720⟩ := chk_some ho1720
      refine run_region rfl ?_
      refine ox rfl rfl rfl rfl (ex_move rfl rfl) ?_
      refine ox rfl rfl rfl rfl (ex_move rfl rfl) ?_
      refine ox rfl rfl rfl rfl (ex_nilCheck rfl rfl) ?_
      refine ox rfl rfl rfl rfl (ex_fieldAddr (off' := f0 + 1) rfl rfl Tryz.underlying28 rfl tsz2 rfl) ?_
      refine ox rfl rfl rfl rfl (ex_load1 rfl rfl Tryz.underlying2 rfl ((HM.at_ hc0) 1 _ rfl)) ?_
      refine od rfl rfl rfl rfl (does_callk rfl callok39 rfl (spec_l2Digits.calls (x0 := x0.fMember) h1723)) ?_
      rintro _ w1725 ⟨rfl, hn⟩
      replace HM : Mem w [] w1725 [own kStr 9 v1705 ([(⟨#[112, 97, 121]⟩ : ByteArray), (⟨#[106, 111, 105, 110, 32]⟩ : ByteArray), (⟨#[108, 101, 97, 118, 101, 32]⟩ : ByteArray)] : List ByteArray)] := HM.call hn
      refine ox rfl rfl rfl rfl (ex_sadd rfl rfl rfl (leB_le e1724)) ?_
      refine ox rfl rfl rfl rfl (ex_assign rfl rfl) ?_
      refine ops_nil ?_
      replace HM := (HM.front 0 rfl rfl).drop
      exact at_mid (ρ' := [(0, .pointer (some ⟨b0, f0, none⟩)), (3, .string ((gt ([(⟨#[112, 97, 121]⟩ : ByteArray), (⟨#[106, 111, 105, 110, 32]⟩ : ByteArray), (⟨#[108, 101, 97, 118, 101, 32]⟩ : ByteArray)] : List ByteArray) x0.fKind) ++ t1722))]) ⟨_, (Option.some.inj ho1720), rfl, HM⟩ (Sub.cons rfl (Sub.cons rfl Sub.nil))
    · replace ho1720 := cond_f hb1721 ho1720
      refine run_skip ?_
      replace HM := (HM.front 0 rfl rfl).drop
      exact at_mid (ρ' := [(0, .pointer (some ⟨b0, f0, none⟩)), (3, .string (gt ([(⟨#[112, 97, 121]⟩ : ByteArray), (⟨#[106, 111, 105, 110, 32]⟩ : ByteArray), (⟨#[108, 101, 97, 118, 101, 32]⟩ : ByteArray)] : List ByteArray) x0.fKind))]) ⟨_, (Option.some.inj ho1720), rfl, HM⟩ (Sub.cons rfl (Sub.cons rfl Sub.nil))
  · rintro _ w1726 ⟨a1718, rfl, rfl, HM⟩
    obtain ⟨o1784, ho1785, H⟩ := bind_some H
    refine run_mid (fun ρ_ w_ => ∃ a1783 : ByteArray, a1783 = o1784 ∧ ρ_ = [(0, .pointer (some ⟨b0, f0, none⟩)), (3, .string a1783)] ∧ Mem w [] w_ []) ?_ ?_
    · clear H
      refine run_seq ?_
      refine run_region rfl ?_
      refine ox rfl rfl rfl rfl (ex_assign rfl rfl) ?_
      refine ops_nil (at_then ?_)
      refine run_block ?_
      refine run_loop (fun k_ ρ_ w_ => ∃ a1804 : ByteArray, ∃ a1805 : Int, spec_l3Text.l0 x0 k_ a1804 a1805 = some o1784 ∧ ρ_ = [(0, .pointer (some ⟨b0, f0, none⟩)), (3, .string a1804), (4, .int .i64 a1805)] ∧ Mem w [] w_ []) k (ρ1 := [(0, .pointer (some ⟨b0, f0, none⟩)), (3, .string a1718), (4, .int .i64 0)]) ⟨_, _, ho1785, rfl, HM⟩ (Sub.cons rfl (Sub.cons rfl (Sub.cons rfl Sub.nil))) ?_
      clear HM ho1785
      rintro k1824 _ w1825 ⟨a1804, a1805, ho1785, rfl, HM⟩
      obtain _ | k1824 := k1824
      · exact nomatch ((spec_l3Text.l0_z x0 a1804 a1805).symm.trans ho1785)
      replace ho1785 := (spec_l3Text.l0_s x0 k1824 a1804 a1805).symm.trans ho1785
      refine run_seq ?_
      refine run_seq ?_
      refine run_region rfl ?_
      refine ox rfl rfl rfl rfl (ex_move rfl rfl) ?_
      refine ox rfl rfl rfl rfl (ex_move rfl rfl) ?_
      refine ox rfl rfl rfl rfl (ex_nilCheck rfl rfl) ?_
      refine ox rfl rfl rfl rfl (ex_fieldAddr (off' := f0 + 2) rfl rfl Tryz.underlying28 rfl tsz25 rfl) ?_
      refine ox rfl rfl rfl rfl (ex_load1 rfl rfl Tryz.underlying25 rfl ((HM.at_ hc0) 2 _ rfl)) ?_
      refine ox rfl rfl rfl rfl (ex_len (d := kRef) (xs := x0.fIns) rfl rfl Tryz.underlying25 hp0_0) ?_
      refine ox rfl rfl rfl rfl (ex_lss rfl rfl rfl) ?_
      refine ops_nil (at_then ?_)
      refine run_cond (b := (decide (a1805 < (x0.fIns.length : Int)))) rfl (fun hb1826 => ?_) (fun hb1826 => ?_)
      · replace ho1785 := cond_t hb1826 ho1785
        refine run_skip ?_
        refine at_then ?_
        refine run_seq ?_
        refine run_block ?_
        refine run_seq ?_
        refine run_region rfl ?_
        refine ox rfl rfl rfl rfl (ex_assign rfl rfl) ?_
        refine ops_nil (at_then ?_)
        obtain ⟨o1830, ho1831, ho1785⟩ := bind_some ho1785
        refine run_mid (fun ρ_ w_ => ∃ a1829 : ByteArray, a1829 = o1830 ∧ ρ_ = [(0, .pointer (some ⟨b0, f0, none⟩)), (3, .string a1804), (4, .int .i64 a1805), (5, .string a1829)] ∧ Mem w [] w_ []) ?_ ?_
        · clear ho1785
          refine run_seq ?_
          refine run_region rfl ?_
          refine ox rfl rfl rfl rfl (ex_move rfl rfl) ?_
          refine ox rfl rfl rfl rfl (ex_eql rfl rfl rfl) ?_
          refine ops_nil (at_then ?_)
          refine run_cond (b := (a1805 == 0)) rfl (fun hb1832 => ?_) (fun hb1832 => ?_)
          · replace ho1831 := cond_t hb1832 ho1831
            refine run_region rfl ?_
            refine ox rfl rfl rfl rfl (ex_assign rfl rfl) ?_
            refine ops_nil ?_
            exact at_mid (ρ' := [(0, .pointer (some ⟨b0, f0, none⟩)), (3, .string a1804), (4, .int .i64 a1805), (5, .string (⟨#[32]⟩ : ByteArray))]) ⟨_, (Option.some.inj ho1831), rfl, HM⟩ (Sub.cons rfl (Sub.cons rfl (Sub.cons rfl (Sub.cons rfl Sub.nil))))
          · replace ho1831 := cond_f hb1832 ho1831
            refine run_skip ?_
            exact at_mid (ρ' := [(0, .pointer (some ⟨b0, f0, none⟩)), (3, .string a1804), (4, .int .i64 a1805), (5, .string (⟨#[43]⟩ : ByteArray))]) ⟨_, (Option.some.inj ho1831), rfl, HM⟩ (Sub.cons rfl (Sub.cons rfl (Sub.cons rfl (Sub.cons rfl Sub.nil))))
        · rintro _ w1833 ⟨a1829, rfl, rfl, HM⟩
          obtain ⟨e1834, ho1785⟩ := chk_some ho1785
          obtain ⟨e1835, ho1785⟩ := chk_some ho1785
          obtain ⟨e1837, ho1785⟩ := chk_some ho1785
          obtain ⟨t1839, h1840, ho1785⟩ := bind_some ho1785
          obtain ⟨e1841, ho1785⟩ := chk_some ho1785
          obtain ⟨e1842, ho1785⟩ := chk_some ho1785
          obtain ⟨t1843, h1844, ho1785⟩ := bind_some ho1785
          obtain ⟨e1845, ho1785⟩ := chk_some ho1785
          refine run_drawf (fun w_ => Mem w [] w_ []) [(0, true), (1, true), (2, true), (3, true), (4, true), (5, true), (6, true), (7, true), (8, true), (9, true), (10, true), (14, true), (15, true), (16, true), (17, true), (18, true), (19, true), (20, true), (21, true), (11, false), (12, true), (13, true), (22, false), (23, true), (24, true)] mixed rfl rfl (by kernel_rfl) ?_
          replace HM := HM.grow (fr_drew _)
          have hS := Mem.suf (M := []) HM
          refine dp rfl rfl rfl rfl (ex_move rfl rfl) hS ?_
          refine dp rfl rfl rfl rfl (ex_move rfl rfl) hS ?_
          refine dp rfl rfl rfl rfl (ex_sadd rfl rfl rfl (leB_le e1834)) hS ?_
          refine dp rfl rfl rfl rfl (ex_move rfl rfl) hS ?_
          refine dp rfl rfl rfl rfl (ex_nilCheck rfl rfl) hS ?_
          refine dp rfl rfl rfl rfl (ex_fieldAddr (off' := f0 + 2) rfl rfl Tryz.underlying28 rfl tsz25 rfl) hS ?_
          refine drwp_take rfl (guard_none rfl) rfl rfl (fun w_ hS_ => (ex_load1 rfl rfl Tryz.underlying25 rfl ((hS_.at_ hc0) 2 _ rfl))) hS ?_
          refine dp rfl rfl rfl rfl (ex_move rfl rfl) hS ?_
          have hc1836 : CellsAt _ (sb p0_0) (so p0_0 + (a1805).toNat * 2) [(.int .i64 ((gt x0.fIns a1805).fTx)), (.int .i64 ((gt x0.fIns a1805).fAt))] := rd_plain hp0_0 e1835
          refine dp rfl rfl rfl rfl (ex_indexAddr (d := kRef) rfl rfl rfl Tryz.underlying25 tsz62 hp0_0 (idx_lo e1835) (idx_hi e1835)) hS ?_
          refine dp rfl rfl rfl rfl (ex_fieldAddr (off' := so p0_0 + (a1805).toNat * 2) rfl rfl Tryz.underlying62 rfl tsz2 rfl) hS ?_
          refine drwp_take rfl (guard_none rfl) rfl rfl (fun w_ hS_ => (ex_load1 rfl rfl Tryz.underlying2 rfl ((hS_.at_ hc1836) 0 _ rfl))) hS ?_
          refine dp rfl rfl rfl rfl (ex_move rfl rfl) hS ?_
          refine dp rfl rfl rfl rfl (ex_nilCheck rfl rfl) hS ?_
          refine dp rfl rfl rfl rfl (ex_fieldAddr (off' := f0 + 2) rfl rfl Tryz.underlying28 rfl tsz25 rfl) hS ?_
          refine drwp_take rfl (guard_none rfl) rfl rfl (fun w_ hS_ => (ex_load1 rfl rfl Tryz.underlying25 rfl ((hS_.at_ hc0) 2 _ rfl))) hS ?_
          refine dp rfl rfl rfl rfl (ex_move rfl rfl) hS ?_
          have hc1838 : CellsAt _ (sb p0_0) (so p0_0 + (a1805).toNat * 2) [(.int .i64 ((gt x0.fIns a1805).fTx)), (.int .i64 ((gt x0.fIns a1805).fAt))] := rd_plain hp0_0 e1837
          refine dp rfl rfl rfl rfl (ex_indexAddr (d := kRef) rfl rfl rfl Tryz.underlying25 tsz62 hp0_0 (idx_lo e1837) (idx_hi e1837)) hS ?_
          refine dp rfl rfl rfl rfl (ex_fieldAddr (off' := so p0_0 + (a1805).toNat * 2 + 1) rfl rfl Tryz.underlying62 rfl tsz2 rfl) hS ?_
          refine drwp_take rfl (guard_none rfl) rfl rfl (fun w_ hS_ => (ex_load1 rfl rfl Tryz.underlying2 rfl ((hS_.at_ hc1838) 1 _ rfl))) hS ?_
          refine drwp_one rfl (guard_none rfl) rfl rfl (does_callk rfl callok39 rfl (spec_l2Digits.calls (x0 := (gt x0.fIns a1805).fTx) h1840)) ?_
          rintro _ w1846 ⟨rfl, hn⟩
          replace HM : Mem w [] w1846 [] := HM.call hn
          have hS := Mem.suf (M := []) HM
          refine ⟨hS, ?_⟩
          refine dp rfl rfl rfl rfl (ex_sadd rfl rfl rfl (leB_le e1841)) hS ?_
          refine dp rfl rfl rfl rfl (ex_sadd rfl rfl rfl (leB_le e1842)) hS ?_
          refine drwp_one rfl (guard_none rfl) rfl rfl (does_callk rfl callok39 rfl (spec_l2Digits.calls (x0 := (gt x0.fIns a1805).fAt) h1844)) ?_
          rintro _ w1847 ⟨rfl, hn⟩
          replace HM : Mem w [] w1847 [] := HM.call hn
          have hS := Mem.suf (M := []) HM
          refine ⟨hS, ?_⟩
          refine dp rfl rfl rfl rfl (ex_sadd rfl rfl rfl (leB_le e1845)) hS ?_
          refine dp rfl rfl rfl rfl (ex_assign rfl rfl) hS ?_
          refine drwp_done ?_
          refine at_block ?_
          refine at_then ?_
          refine run_region rfl ?_
          refine ox rfl rfl rfl rfl (ex_move rfl rfl) ?_
          refine ox rfl rfl rfl rfl (ex_add rfl rfl rfl) ?_
          refine ox rfl rfl rfl rfl (ex_assign rfl rfl) ?_
          refine ops_nil ?_
          exact at_again k1824 (ρ1 := [(0, .pointer (some ⟨b0, f0, none⟩)), (3, .string ((((a1804 ++ a1829) ++ t1839) ++ (⟨#[58]⟩ : ByteArray)) ++ t1843)), (4, .int .i64 (wrap64 (a1805 + 1)))]) (Nat.lt_succ_self _) ⟨_, _, ho1785, rfl, HM⟩ (Sub.cons rfl (Sub.cons rfl (Sub.cons rfl Sub.nil)))
      · replace ho1785 := cond_f hb1826 ho1785
        refine run_exit ?_
        refine at_then_exit ?_
        refine at_then_exit ?_
        refine at_block_exit ?_
        exact at_mid (ρ' := [(0, .pointer (some ⟨b0, f0, none⟩)), (3, .string a1804)]) ⟨_, (Option.some.inj ho1785), rfl, HM⟩ (Sub.cons rfl (Sub.cons rfl Sub.nil))
    · rintro _ w1848 ⟨a1783, rfl, rfl, HM⟩
      obtain ⟨o1909, ho1910, H⟩ := bind_some H
      refine run_mid (fun ρ_ w_ => ∃ a1908 : ByteArray, a1908 = o1909 ∧ ρ_ = [(3, .string a1908)] ∧ Mem w [] w_ []) ?_ ?_
      · clear H
        refine run_seq ?_
        refine run_region rfl ?_
        refine ox rfl rfl rfl rfl (ex_assign rfl rfl) ?_
        refine ops_nil (at_then ?_)
        refine run_block ?_
        refine run_loop (fun k_ ρ_ w_ => ∃ a1930 : ByteArray, ∃ a1931 : Int, spec_l3Text.l1 x0 k_ a1930 a1931 = some o1909 ∧ ρ_ = [(0, .pointer (some ⟨b0, f0, none⟩)), (3, .string a1930), (6, .int .i64 a1931)] ∧ Mem w [] w_ []) k (ρ1 := [(0, .pointer (some ⟨b0, f0, none⟩)), (3, .string a1783), (6, .int .i64 0)]) ⟨_, _, ho1910, rfl, HM⟩ (Sub.cons rfl (Sub.cons rfl (Sub.cons rfl Sub.nil))) ?_
        clear HM ho1910
        rintro k1951 _ w1952 ⟨a1930, a1931, ho1910, rfl, HM⟩
        obtain _ | k1951 := k1951
        · exact nomatch ((spec_l3Text.l1_z x0 a1930 a1931).symm.trans ho1910)
        replace ho1910 := (spec_l3Text.l1_s x0 k1951 a1930 a1931).symm.trans ho1910
        refine run_seq ?_
        refine run_seq ?_
        refine run_region rfl ?_
        refine ox rfl rfl rfl rfl (ex_move rfl rfl) ?_
        refine ox rfl rfl rfl rfl (ex_move rfl rfl) ?_
        refine ox rfl rfl rfl rfl (ex_nilCheck rfl rfl) ?_
        refine ox rfl rfl rfl rfl (ex_fieldAddr (off' := f0 + 3) rfl rfl Tryz.underlying28 rfl tsz26 rfl) ?_
        refine ox rfl rfl rfl rfl (ex_load1 rfl rfl Tryz.underlying26 rfl ((HM.at_ hc0) 3 _ rfl)) ?_
        refine ox rfl rfl rfl rfl (ex_len (d := kOut) (xs := x0.fOuts) rfl rfl Tryz.underlying26 hp0_1) ?_
        refine ox rfl rfl rfl rfl (ex_lss rfl rfl rfl) ?_
        refine ops_nil (at_then ?_)
        refine run_cond (b := (decide (a1931 < (x0.fOuts.length : Int)))) rfl (fun hb1953 => ?_) (fun hb1953 => ?_)
        · replace ho1910 := cond_t hb1953 ho1910
          refine run_skip ?_
          refine at_then ?_
          refine run_seq ?_
          refine run_block ?_
          obtain ⟨e1954, ho1910⟩ := chk_some ho1910
          obtain ⟨e1955, ho1910⟩ := chk_some ho1910
          obtain ⟨e1959, ho1910⟩ := chk_some ho1910
          obtain ⟨t1963, h1964, ho1910⟩ := bind_some ho1910
          obtain ⟨e1965, ho1910⟩ := chk_some ho1910
          obtain ⟨e1966, ho1910⟩ := chk_some ho1910
          obtain ⟨t1967, h1968, ho1910⟩ := bind_some ho1910
          obtain ⟨t1969, h1970, ho1910⟩ := bind_some ho1910
          obtain ⟨e1971, ho1910⟩ := chk_some ho1910
          refine run_drawf (fun w_ => Mem w [] w_ []) [(0, true), (1, true), (2, true), (3, true), (4, true), (5, true), (6, true), (7, true), (8, true), (9, true), (13, true), (14, true), (15, true), (16, true), (17, true), (18, true), (19, true), (10, false), (11, true), (12, true), (20, false), (21, false), (22, true), (23, true)] mixed rfl rfl (by kernel_rfl) ?_
          replace HM := HM.grow (fr_drew _)
          have hS := Mem.suf (M := []) HM
          refine dp rfl rfl rfl rfl (ex_move rfl rfl) hS ?_
          refine dp rfl rfl rfl rfl (ex_sadd rfl rfl rfl (leB_le e1954)) hS ?_
          refine dp rfl rfl rfl rfl (ex_move rfl rfl) hS ?_
          refine dp rfl rfl rfl rfl (ex_nilCheck rfl rfl) hS ?_
          refine dp rfl rfl rfl rfl (ex_fieldAddr (off' := f0 + 3) rfl rfl Tryz.underlying28 rfl tsz26 rfl) hS ?_
          refine drwp_take rfl (guard_none rfl) rfl rfl (fun w_ hS_ => (ex_load1 rfl rfl Tryz.underlying26 rfl ((hS_.at_ hc0) 3 _ rfl))) hS ?_
          refine dp rfl rfl rfl rfl (ex_move rfl rfl) hS ?_
          obtain ⟨kv1957, hc1956, hk1958⟩ : ∃ u, CellsAt _ (sb p0_1) (so p0_1 + (a1931).toNat * 4) [(.int .i64 ((gt x0.fOuts a1931).fValue)), u, (.int .i64 ((gt x0.fOuts a1931).fRule.fNeed)), (.int .i64 ((gt x0.fOuts a1931).fRule.fAfter))] ∧ RdS kInt _ u ((gt x0.fOuts a1931).fRule.fKeys) := rd_with1 hp0_1 e1955
          refine dp rfl rfl rfl rfl (ex_indexAddr (d := kOut) rfl rfl rfl Tryz.underlying26 tsz44 hp0_1 (idx_lo e1955) (idx_hi e1955)) hS ?_
          refine dp rfl rfl rfl rfl (ex_fieldAddr (off' := so p0_1 + (a1931).toNat * 4) rfl rfl Tryz.underlying44 rfl tsz2 rfl) hS ?_
          refine drwp_take rfl (guard_none rfl) rfl rfl (fun w_ hS_ => (ex_load1 rfl rfl Tryz.underlying2 rfl ((hS_.at_ hc1956) 0 _ rfl))) hS ?_
          refine dp rfl rfl rfl rfl (ex_move rfl rfl) hS ?_
          refine dp rfl rfl rfl rfl (ex_nilCheck rfl rfl) hS ?_
          refine dp rfl rfl rfl rfl (ex_fieldAddr (off' := f0 + 3) rfl rfl Tryz.underlying28 rfl tsz26 rfl) hS ?_
          refine drwp_take rfl (guard_none rfl) rfl rfl (fun w_ hS_ => (ex_load1 rfl rfl Tryz.underlying26 rfl ((hS_.at_ hc0) 3 _ rfl))) hS ?_
          refine dp rfl rfl rfl rfl (ex_move rfl rfl) hS ?_
          obtain ⟨kv1961, hc1960, hk1962⟩ : ∃ u, CellsAt _ (sb p0_1) (so p0_1 + (a1931).toNat * 4) [(.int .i64 ((gt x0.fOuts a1931).fValue)), u, (.int .i64 ((gt x0.fOuts a1931).fRule.fNeed)), (.int .i64 ((gt x0.fOuts a1931).fRule.fAfter))] ∧ RdS kInt _ u ((gt x0.fOuts a1931).fRule.fKeys) := rd_with1 hp0_1 e1959
          refine dp rfl rfl rfl rfl (ex_indexAddr (d := kOut) rfl rfl rfl Tryz.underlying26 tsz44 hp0_1 (idx_lo e1959) (idx_hi e1959)) hS ?_
          refine dp rfl rfl rfl rfl (ex_fieldAddr (off' := so p0_1 + (a1931).toNat * 4 + 1) rfl rfl Tryz.underlying44 rfl tsz42 rfl) hS ?_
          refine drwp_one rfl (guard_none rfl) rfl rfl (does_callk rfl callok39 rfl (spec_l2Digits.calls (x0 := (gt x0.fOuts a1931).fValue) h1964)) ?_
          rintro _ w1972 ⟨rfl, hn⟩
          replace HM : Mem w [] w1972 [] := HM.call hn
          have hS := Mem.suf (M := []) HM
          refine ⟨hS, ?_⟩
          refine dp rfl rfl rfl rfl (ex_sadd rfl rfl rfl (leB_le e1965)) hS ?_
          refine dp rfl rfl rfl rfl (ex_sadd rfl rfl rfl (leB_le e1966)) hS ?_
          refine drwp_one rfl (guard_none rfl) rfl rfl (does_callk rfl callok41 rfl (spec_l2Text.calls (x0 := (gt x0.fOuts a1931).fRule) (CellsAt.sub (HM.at_ hc1960) 1 3 rfl) (HM.rd hk1962) h1968)) ?_
          rintro _ w1973 ⟨rfl, hn⟩
          replace HM : Mem w [] w1973 [] := HM.call hn
          have hS := Mem.suf (M := []) HM
          refine ⟨hS, ?_⟩
          refine drwp_one rfl (guard_none rfl) rfl rfl (does_callk rfl callok40 rfl (spec_l3Swap.calls (x0 := t1967) (x1 := 32) (x2 := 95) h1970)) ?_
          rintro _ w1974 ⟨rfl, hn⟩
          replace HM : Mem w [] w1974 [] := HM.call hn
          have hS := Mem.suf (M := []) HM
          refine ⟨hS, ?_⟩
          refine dp rfl rfl rfl rfl (ex_sadd rfl rfl rfl (leB_le e1971)) hS ?_
          refine dp rfl rfl rfl rfl (ex_assign rfl rfl) hS ?_
          refine drwp_done ?_
          refine at_block ?_
          refine at_then ?_
          refine run_region rfl ?_
          refine ox rfl rfl rfl rfl (ex_move rfl rfl) ?_
          refine ox rfl rfl rfl rfl (ex_add rfl rfl rfl) ?_
          refine ox rfl rfl rfl rfl (ex_assign rfl rfl) ?_
          refine ops_nil ?_
          exact at_again k1951 (ρ1 := [(0, .pointer (some ⟨b0, f0, none⟩)), (3, .string ((((a1930 ++ (⟨#[32]⟩ : ByteArray)) ++ t1963) ++ (⟨#[61]⟩ : ByteArray)) ++ t1969)), (6, .int .i64 (wrap64 (a1931 + 1)))]) (Nat.lt_succ_self _) ⟨_, _, ho1910, rfl, HM⟩ (Sub.cons rfl (Sub.cons rfl (Sub.cons rfl Sub.nil)))
        · replace ho1910 := cond_f hb1953 ho1910
          refine run_exit ?_
          refine at_then_exit ?_
          refine at_then_exit ?_
          refine at_block_exit ?_
          exact at_mid (ρ' := [(3, .string a1930)]) ⟨_, (Option.some.inj ho1910), rfl, HM⟩ (Sub.cons rfl Sub.nil)
      · rintro _ w1975 ⟨a1908, rfl, rfl, HM⟩
        refine run_seq ?_
        refine run_region rfl ?_
        refine ox rfl rfl rfl rfl (ex_move rfl rfl) ?_
        refine ox rfl rfl rfl rfl (ex_assign rfl rfl) ?_
        refine ops_nil (at_then ?_)
        refine run_ret ?_
        have hR := Option.some.inj H
        subst hR
        exact at_ret1 rfl rfl ⟨_, rfl, rfl, HM⟩

def spec_DrawParseTx.f (k : Nat) (x0 : List Int) : Option ByteArray := ((spec_l1Source.f k x0).bind fun t2021 => ((spec_l3Draw.f k (⟨x0, t2021⟩ : l1Src)).bind fun t2026 => ((spec_l3Text.f k (⟨t2026.1.fKind, t2026.1.fMember, t2026.1.fIns, t2026.1.fOuts⟩ : Tx)).bind fun t2044 => ((spec_l1Next.f k (⟨x0, t2026.2⟩ : l1Src) 5).bind fun t2050 => (bif (t2050.1 == 0) then ((spec_l1Next.f k (⟨x0, t2050.2⟩ : l1Src) ((strNums t2044).length : Int)).bind fun t2060 => ((spec_l1Pick.f k (⟨x0, t2060.2⟩ : l1Src) ([48, 32, 57, 95, 58] : List Int)).bind fun t2071 => (chk (idxOk t2060.1 (strNums t2044).length) (some (strOfNums ((strNums t2044).set (t2060.1).toNat (IntKind.u8.wrap t2071.1))))))) else (bif (t2050.1 == 1) then ((spec_l1Next.f k (⟨x0, t2050.2⟩ : l1Src) ((strNums t2044).length : Int)).bind fun t2085 => (chk (cutOk t2085.1 (strNums t2044).length) (some (strOfNums ((strNums t2044).take (t2085.1).toNat))))) else some (strOfNums (strNums t2044))))))))
theorem spec_DrawParseTx.calls {k : Nat} {x0 : List Int} {p0 : Value} {w : World} (hp0 : RdS kU8 w p0 x0) {r : ByteArray} (H : spec_DrawParseTx.f k x0 = some r) :
    Calls Tryz.prog 5 ([p0] : List Value).toArray w (fun e w_ => ∃ v, e = .returned v ∧ v = (.string r) ∧ Mem w [] w_ []) := by
  have HM := Mem.start w
  refine calls_run (N := 36) Tryz.func5 rfl rfl rfl rfl ?_
  unfold spec_DrawParseTx.f at H
  refine run_seq ?_
  refine run_region rfl ?_
  refine ox rfl rfl rfl rfl (ex_assign rfl rfl) ?_
  refine ops_nil (at_then (run_seq ?_))
  obtain ⟨t2021, h2022, H⟩ := bind_some H
  refine run_region rfl ?_
  refine ox rfl rfl rfl rfl (ex_move rfl rfl) ?_
  refine od rfl rfl rfl rfl (does_callk rfl callok16 rfl (spec_l1Source.calls (x0 := x0) (HM.rd hp0) h2022)) ?_
  rintro _ w2025 ⟨b2023, rfl, hn⟩
  replace HM : Mem w [] w2025 [box b2023 70 [p0, .int .i64 t2021]] := HM.call hn
  refine ox rfl rfl rfl rfl (ex_assign rfl rfl) ?_
  refine ops_nil (at_then (run_seq ?_))
  obtain ⟨t2026, h2027, H⟩ := bind_some H
  refine run_region rfl ?_
  refine ox rfl rfl rfl rfl (ex_move rfl rfl) ?_
  obtain ⟨F2032, hF2033, hFn2034, hFl2035, HMh2036, hcl2037⟩ := HM.hide (Ms := [box b2023 70 [p0, .int .i64 t2021]])
  refine od rfl rfl rfl rfl (does_callk rfl callok17 rfl (spec_l3Draw.calls (x0 := (⟨x0, t2021⟩ : l1Src)) (hide_olds _ _) hF2033 hFn2034 hFl2035 (HMh2036.rd hp0) h2027)) ?_
  rintro _ w2041 ⟨u2028, u2030, rfl, hn⟩
  replace HM : Mem w [] w2041 [own kRef 62 u2028 t2026.1.fIns, own kOut 44 u2030 t2026.1.fOuts, box b2023 70 [p0, .int .i64 t2026.2]] := hcl2037 _ _ hn
  refine od rfl rfl rfl rfl (does_alloc (cs := [.int .i64 0, .int .i64 0, .slice none 0 0, .slice none 0 0]) rfl tz28 rfl HM) ?_
  rintro _ w2042 ⟨b2038, rfl, HM⟩
  refine odS rfl rfl rfl (does_store (vs := [.int .i64 t2026.1.fKind, .int .i64 t2026.1.fMember, u2028, u2030]) (cs' := [.int .i64 t2026.1.fKind, .int .i64 t2026.1.fMember, u2028, u2030]) rfl rfl rfl rfl tsz28 (Ones.int (Ones.int (Ones.rd (HM.own_rd 1 rfl) (Ones.rd (HM.own_rd 2 rfl) Ones.nil)))) rfl rfl HM) ?_
  rintro w2043 HM
  refine ops_nil (at_then (run_seq ?_))
  obtain ⟨t2044, h2045, H⟩ := bind_some H
  refine run_region rfl ?_
  refine od rfl rfl rfl rfl (does_callk rfl callok18 rfl (spec_l3Text.calls (x0 := (⟨t2026.1.fKind, t2026.1.fMember, t2026.1.fIns, t2026.1.fOuts⟩ : Tx)) (HM.box_at 0 rfl) (HM.own_rd 1 rfl) (HM.own_rd 2 rfl) h2045)) ?_
  rintro _ w2048 ⟨rfl, hn⟩
  replace HM : Mem w [] w2048 [box b2038 28 [.int .i64 t2026.1.fKind, .int .i64 t2026.1.fMember, u2028, u2030], own kRef 62 u2028 t2026.1.fIns, own kOut 44 u2030 t2026.1.fOuts, box b2023 70 [p0, .int .i64 t2026.2]] := HM.call hn
  refine od rfl rfl rfl rfl (does_sbytes (e := 5) rfl rfl Tryz.underlying9 Tryz.underlying22 Tryz.underlying5 HM) ?_
  rintro v2046 w2049 HM
  refine ox rfl rfl rfl rfl (ex_assign rfl rfl) ?_
  refine ops_nil (at_then (run_seq ?_))
  refine run_seq ?_
  obtain ⟨t2050, h2051, H⟩ := bind_some H
  refine run_region rfl ?_
  refine ox rfl rfl rfl rfl (ex_move rfl rfl) ?_
  replace HM := HM.front 4 rfl rfl
  obtain ⟨F2052, hF2053, hFn2054, hFl2055, HMh2056, hcl2057⟩ := HM.hide (Ms := [box b2023 70 [p0, .int .i64 t2026.2]])
  refine od rfl rfl rfl rfl (does_callk rfl callok19 rfl (spec_l1Next.calls (x0 := (⟨x0, t2026.2⟩ : l1Src)) (x1 := 5) (hide_olds _ _) hF2053 hFn2054 hFl2055 (HMh2056.rd hp0) h2051)) ?_
  rintro _ w2058 ⟨rfl, hn⟩
  replace HM : Mem w [] w2058 [box b2023 70 [p0, .int .i64 t2050.2], brow 5 v2046 (strNums t2044), box b2038 28 [.int .i64 t2026.1.fKind, .int .i64 t2026.1.fMember, u2028, u2030], own kRef 62 u2028 t2026.1.fIns, own kOut 44 u2030 t2026.1.fOuts] := hcl2057 _ _ hn
  refine ops_nil (at_then ?_)
  refine run_block ?_
  refine run_seq ?_
  refine run_region rfl ?_
  refine ox rfl rfl rfl rfl (ex_eql rfl rfl rfl) ?_
  refine ox rfl rfl rfl rfl (ex_assign rfl rfl) ?_
  refine ops_nil (at_then ?_)
  refine run_cond (b := (t2050.1 == 0)) rfl (fun hb2059 => ?_) (fun hb2059 => ?_)
  · replace H := cond_t hb2059 H
    obtain ⟨t2060, h2061, H⟩ := bind_some H
    obtain ⟨t2071, h2072, H⟩ := bind_some H
    obtain ⟨e2079, H⟩ := chk_some H
    refine run_region rfl ?_
    refine ox rfl rfl rfl rfl (ex_move rfl rfl) ?_
    refine ox rfl rfl rfl rfl (ex_move rfl rfl) ?_
    refine ox rfl rfl rfl rfl (ex_move rfl rfl) ?_
    refine ox rfl rfl rfl rfl (ex_len (d := kU8) (xs := strNums t2044) rfl rfl Tryz.underlying22 (HM.brow_rd (hl := fun _ => rfl) (h1 := fun _ => onesC rfl onesN) 1 rfl)) ?_
    obtain ⟨F2062, hF2063, hFn2064, hFl2065, HMh2066, hcl2067⟩ := HM.hide (Ms := [box b2023 70 [p0, .int .i64 t2050.2]])
    refine od rfl rfl rfl rfl (does_callk rfl callok19 rfl (spec_l1Next.calls (x0 := (⟨x0, t2050.2⟩ : l1Src)) (x1 := ((strNums t2044).length : Int)) (hide_olds _ _) hF2063 hFn2064 hFl2065 (HMh2066.rd hp0) h2061)) ?_
    rintro _ w2080 ⟨rfl, hn⟩
    replace HM : Mem w [] w2080 [box b2023 70 [p0, .int .i64 t2060.2], brow 5 v2046 (strNums t2044), box b2038 28 [.int .i64 t2026.1.fKind, .int .i64 t2026.1.fMember, u2028, u2030], own kRef 62 u2028 t2026.1.fIns, own kOut 44 u2030 t2026.1.fOuts] := hcl2067 _ _ hn
    refine ox rfl rfl rfl rfl (ex_move rfl rfl) ?_
    refine od rfl rfl rfl rfl (does_lit (e := 2) (cs := [.int .i64 48, .int .i64 32, .int .i64 57, .int .i64 95, .int .i64 58]) (xs := ([48, 32, 57, 95, 58] : List Int)) kInt rfl rfl (fun _ => by kernel_rfl) rfl rfl (fun _ _ h => by have h' : _ = [] := h; subst h'; exact (Elems.cons (d := kInt) (x := 48) (f := []) ⟨rfl, rfl⟩ (Elems.cons (d := kInt) (x := 32) (f := []) ⟨rfl, rfl⟩ (Elems.cons (d := kInt) (x := 57) (f := []) ⟨rfl, rfl⟩ (Elems.cons (d := kInt) (x := 95) (f := []) ⟨rfl, rfl⟩ (Elems.cons (d := kInt) (x := 58) (f := []) ⟨rfl, rfl⟩ .nil)))))) HM.emp) ?_
    rintro v2068 w2081 HM
    replace HM := HM.front 1 rfl rfl
    obtain ⟨F2073, hF2074, hFn2075, hFl2076, HMh2077, hcl2078⟩ := HM.hide (Ms := [box b2023 70 [p0, .int .i64 t2060.2]])
    refine od rfl rfl rfl rfl (does_callk rfl callok20 rfl (spec_l1Pick.calls (x0 := (⟨x0, t2060.2⟩ : l1Src)) (x1 := ([48, 32, 57, 95, 58] : List Int)) (hide_olds _ _) hF2074 hFn2075 hFl2076 (HMh2077.rd hp0) (HMh2077.own_rd 0 rfl) h2072)) ?_
    rintro _ w2082 ⟨rfl, hn⟩
    replace HM : Mem w [] w2082 [box b2023 70 [p0, .int .i64 t2071.2], own kInt 2 v2068 ([48, 32, 57, 95, 58] : List Int), brow 5 v2046 (strNums t2044), box b2038 28 [.int .i64 t2026.1.fKind, .int .i64 t2026.1.fMember, u2028, u2030], own kRef 62 u2028 t2026.1.fIns, own kOut 44 u2030 t2026.1.fOuts] := hcl2078 _ _ hn
    refine ox rfl rfl rfl rfl (ex_conv rfl rfl (by rw [Tryz.underlying2]; rfl) Tryz.underlying5) ?_
    refine ox rfl rfl rfl rfl (ex_indexAddr (d := kU8) rfl rfl rfl Tryz.underlying22 tsz5 (HM.brow_rd (hl := fun _ => rfl) (h1 := fun _ => onesC rfl onesN) 2 rfl) (idx_lo e2079) (idx_hi e2079)) ?_
    replace HM := HM.front 2 rfl rfl
    refine odS rfl rfl rfl (does_setB rfl rfl rfl rfl tsz5 (idx_nat e2079) HM) ?_
    rintro w2083 HM
    refine ops_nil ?_
    refine at_block ?_
    refine at_then ?_
    refine run_seq ?_
    refine run_region rfl ?_
    refine ox rfl rfl rfl rfl (ex_move rfl rfl) ?_
    refine ox rfl rfl rfl rfl (ex_bstr (e := 5) rfl rfl Tryz.underlying22 Tryz.underlying5 Tryz.underlying9 (HM.brow_rd (hl := fun _ => rfl) (h1 := fun _ => onesC rfl onesN) 0 rfl)) ?_
    refine ox rfl rfl rfl rfl (ex_assign rfl rfl) ?_
    refine ops_nil (at_then ?_)
    refine run_ret ?_
    replace HM := (HM.front 0 rfl rfl).drop
    replace HM := (HM.front 0 rfl rfl).drop
    replace HM := (HM.front 0 rfl rfl).drop
    replace HM := (HM.front 0 rfl rfl).drop
    replace HM := (HM.front 0 rfl rfl).drop
    replace HM := (HM.front 0 rfl rfl).drop
    have hR := Option.some.inj H
    subst hR
    exact at_ret1 rfl rfl ⟨_, rfl, rfl, HM⟩
  · replace H := cond_f hb2059 H
    refine run_seq ?_
    refine run_region rfl ?_
    refine ox rfl rfl rfl rfl (ex_eql rfl rfl rfl) ?_
    refine ox rfl rfl rfl rfl (ex_assign rfl rfl) ?_
    refine ops_nil (at_then ?_)
    refine run_cond (b := (t2050.1 == 1)) rfl (fun hb2084 => ?_) (fun hb2084 => ?_)
    · replace H := cond_t hb2084 H
      obtain ⟨t2085, h2086, H⟩ := bind_some H
      obtain ⟨e2093, H⟩ := chk_some H
      refine run_region rfl ?_
      refine ox rfl rfl rfl rfl (ex_move rfl rfl) ?_
      refine ox rfl rfl rfl rfl (ex_move rfl rfl) ?_
      refine ox rfl rfl rfl rfl (ex_move rfl rfl) ?_
      refine ox rfl rfl rfl rfl (ex_len (d := kU8) (xs := strNums t2044) rfl rfl Tryz.underlying22 (HM.brow_rd (hl := fun _ => rfl) (h1 := fun _ => onesC rfl onesN) 1 rfl)) ?_
      obtain ⟨F2087, hF2088, hFn2089, hFl2090, HMh2091, hcl2092⟩ := HM.hide (Ms := [box b2023 70 [p0, .int .i64 t2050.2]])
      refine od rfl rfl rfl rfl (does_callk rfl callok19 rfl (spec_l1Next.calls (x0 := (⟨x0, t2050.2⟩ : l1Src)) (x1 := ((strNums t2044).length : Int)) (hide_olds _ _) hF2088 hFn2089 hFl2090 (HMh2091.rd hp0) h2086)) ?_
      rintro _ w2096 ⟨rfl, hn⟩
      replace HM : Mem w [] w2096 [box b2023 70 [p0, .int .i64 t2085.2], brow 5 v2046 (strNums t2044), box b2038 28 [.int .i64 t2026.1.fKind, .int .i64 t2026.1.fMember, u2028, u2030], own kRef 62 u2028 t2026.1.fIns, own kOut 44 u2030 t2026.1.fOuts] := hcl2092 _ _ hn
      replace HM := HM.front 1 rfl rfl
      refine od rfl rfl rfl rfl (does_cutB rfl rfl rfl Tryz.underlying22 tsz5 e2093 HM) ?_
      rintro v2094 w2097 HM
      refine ox rfl rfl rfl rfl (ex_assign rfl rfl) ?_
      refine ops_nil ?_
      refine at_block ?_
      refine at_then ?_
      refine run_seq ?_
      refine run_region rfl ?_
      refine ox rfl rfl rfl rfl (ex_move rfl rfl) ?_
      refine ox rfl rfl rfl rfl (ex_bstr (e := 5) rfl rfl Tryz.underlying22 Tryz.underlying5 Tryz.underlying9 (HM.brow_rd (hl := fun _ => rfl) (h1 := fun _ => onesC rfl onesN) 0 rfl)) ?_
      refine ox rfl rfl rfl rfl (ex_assign rfl rfl) ?_
      refine ops_nil (at_then ?_)
      refine run_ret ?_
      replace HM := (HM.front 0 rfl rfl).drop
      replace HM := (HM.front 0 rfl rfl).drop
      replace HM := (HM.front 0 rfl rfl).drop
      replace HM := (HM.front 0 rfl rfl).drop
      replace HM := (HM.front 0 rfl rfl).drop
      have hR := Option.some.inj H
      subst hR
      exact at_ret1 rfl rfl ⟨_, rfl, rfl, HM⟩
    · replace H := cond_f hb2084 H
      refine run_skip ?_
      refine at_block ?_
      refine at_then ?_
      refine run_seq ?_
      refine run_region rfl ?_
      refine ox rfl rfl rfl rfl (ex_move rfl rfl) ?_
      refine ox rfl rfl rfl rfl (ex_bstr (e := 5) rfl rfl Tryz.underlying22 Tryz.underlying5 Tryz.underlying9 (HM.brow_rd (hl := fun _ => rfl) (h1 := fun _ => onesC rfl onesN) 1 rfl)) ?_
      refine ox rfl rfl rfl rfl (ex_assign rfl rfl) ?_
      refine ops_nil (at_then ?_)
      refine run_ret ?_
      replace HM := (HM.front 0 rfl rfl).drop
      replace HM := (HM.front 0 rfl rfl).drop
      replace HM := (HM.front 0 rfl rfl).drop
      replace HM := (HM.front 0 rfl rfl).drop
      replace HM := (HM.front 0 rfl rfl).drop
      have hR := Option.some.inj H
      subst hR
      exact at_ret1 rfl rfl ⟨_, rfl, rfl, HM⟩

def strings_Split.f (k : Nat) (x0 x1 : ByteArray) : Option (List ByteArray) := (chk (leB 1 x1.size && leB x0.size 4294967280) (some (Lib.splitB x1 0 (Lib.countB x0 x1) x0)))
theorem strings_Split.calls {k : Nat} {x0 x1 : ByteArray} {w : World} (htab : TabP w) {r : List ByteArray} (H : strings_Split.f k x0 x1 = some r) :
    Calls Tryz.prog 42 ([.string x0, .string x1] : List Value).toArray w (fun e w_ => ∃ v, e = .returned v ∧ ∃ u0 : Value, v = u0 ∧ Mem w [] w_ [own kStr 9 u0 r]) := by
  obtain ⟨h, H⟩ := chk_some H
  have hR := Option.some.inj H
  subst hR
  rw [Bool.and_eq_true] at h
  have h1 : 1 ≤ x1.size := leB_le h.1
  have h0 : x0.size ≤ 4294967280 := leB_le h.2
  obtain ⟨m, hm⟩ := htab.maxLen
  refine (Tryz.strings_Split x0 x1 m w (by omega) hm h1).mono fun e w_ ⟨he, hw⟩ => ⟨_, he, _, rfl, ?_⟩
  subst hw
  have hc := Lib.countB_le x1 h1 _ x0 (Nat.le_refl _)
  exact mem_row rfl (Lib.splitB_all x1 h1 0 _ x0 rfl) (by unfold maxLen; omega) (fun w => by simpa using Elems.strs (d := kStr) (fun x => ⟨rfl, rfl⟩) _)

def impl_kindWords.f (k : Nat)  : Option ((List ByteArray)) := some ([(⟨#[112, 97, 121]⟩ : ByteArray), (⟨#[106, 111, 105, 110]⟩ : ByteArray), (⟨#[108, 101, 97, 118, 101]⟩ : ByteArray)] : List ByteArray)
theorem impl_kindWords.calls {k : Nat}   {w : World}  {r : (List ByteArray)} (H : impl_kindWords.f k  = some r) :
    Calls Tryz.prog 44 ([] : List Value).toArray w (fun e w_ => ∃ v, e = .returned v ∧ ∃ u0 : Value, v = u0 ∧ Mem w [] w_ [own kStr 9 u0 r]) := by
  have HM := Mem.start w
  refine calls_run (N := 2) Tryz.func44 rfl rfl rfl rfl ?_
  unfold impl_kindWords.f at H
  refine run_seq ?_
  refine run_region rfl ?_
  refine ox rfl rfl rfl rfl (ex_assign rfl rfl) ?_
  refine ops_nil (at_then (run_seq ?_))
  refine run_region rfl ?_
  refine od rfl rfl rfl rfl (does_lit (e := 9) (cs := [.string (⟨#[112, 97, 121]⟩ : ByteArray), .string (⟨#[106, 111, 105, 110]⟩ : ByteArray), .string (⟨#[108, 101, 97, 118, 101]⟩ : ByteArray)]) (xs := ([(⟨#[112, 97, 121]⟩ : ByteArray), (⟨#[106, 111, 105, 110]⟩ : ByteArray), (⟨#[108, 101, 97, 118, 101]⟩ : ByteArray)] : List ByteArray)) kStr rfl rfl (fun _ => by kernel_rfl) rfl rfl (fun _ _ h => by have h' : _ = [] := h; subst h'; exact (Elems.cons (d := kStr) (x := (⟨#[112, 97, 121]⟩ : ByteArray)) (f := []) ⟨rfl, rfl⟩ (Elems.cons (d := kStr) (x := (⟨#[106, 111, 105, 110]⟩ : ByteArray)) (f := []) ⟨rfl, rfl⟩ (Elems.cons (d := kStr) (x := (⟨#[108, 101, 97, 118, 101]⟩ : ByteArray)) (f := []) ⟨rfl, rfl⟩ .nil)))) HM.emp) ?_
  rintro v2114 w2117 HM
  refine ox rfl rfl rfl rfl (ex_assign rfl rfl) ?_
  refine ops_nil (at_then ?_)
  refine run_ret ?_
  have hR := Option.some.inj H
  subst hR
  exact at_ret1 rfl rfl ⟨_, rfl, _, rfl, HM⟩

def slices_Index_string.l0 (x0 : List ByteArray) (x1 : ByteArray) : Nat → Int → Option (Int ⊕ Unit)
  | 0, _ => none
  | k + 1, a2156 => (bif (decide (a2156 < (x0.length : Int))) then (chk (idxOk a2156 x0.length) (bif (sEq x1 (gt x0 a2156)) then some (.inl a2156) else slices_Index_string.l0 x0 x1 k (wrap64 (a2156 + 1)))) else some (.inr ()))
theorem slices_Index_string.l0_z (x0 : List ByteArray) (x1 : ByteArray) (a2156 : Int) : slices_Index_string.l0 x0 x1 0 a2156 = none := rfl
theorem slices_Index_string.l0_s (x0 : List ByteArray) (x1 : ByteArray) (k : Nat) (a2156 : Int) : slices_Index_string.l0 x0 x1 (k + 1) a2156 = (bif (decide (a2156 < (x0.length : Int))) then (chk (idxOk a2156 x0.length) (bif (sEq x1 (gt x0 a2156)) then some (.inl a2156) else slices_Index_string.l0 x0 x1 k (wrap64 (a2156 + 1)))) else some (.inr ())) := rfl
def slices_Index_string.f (k : Nat) (x0 : List ByteArray) (x1 : ByteArray) : Option Int := ((slices_Index_string.l0 x0 x1 k 0).bind fun o2150 => thn o2150 (fun r => some r) (fun _ => some (-1)))
theorem slices_Index_string.calls {k : Nat} {x0 : List ByteArray} {x1 : ByteArray} {p0 : Value} {w : World} (hp0 : RdS kStr w p0 x0) {r : Int} (H : slices_Index_string.f k x0 x1 = some r) :
    Calls Tryz.prog 43 ([p0, .string x1] : List Value).toArray w (fun e w_ => ∃ v, e = .returned v ∧ v = (.int .i64 r) ∧ Mem w [] w_ []) := by
  have HM := Mem.start w
  refine calls_run (N := 19) Tryz.func43 rfl rfl rfl rfl ?_
  unfold slices_Index_string.f at H
  refine run_seq ?_
  refine run_region rfl ?_
  refine ox rfl rfl rfl rfl (ex_assign rfl rfl) ?_
  refine ops_nil (at_then ?_)
  obtain ⟨o2150, ho2151, H⟩ := bind_some H
  refine run_mid (fun ρ_ w_ => Sum.inr () = o2150 ∧ ρ_ = [] ∧ Mem w [] w_ []) ?_ ?_
  · skip
    refine run_seq ?_
    refine run_region rfl ?_
    refine ox rfl rfl rfl rfl (ex_move rfl rfl) ?_
    refine ox rfl rfl rfl rfl (ex_len (d := kStr) (xs := x0) rfl rfl Tryz.underlying72 hp0) ?_
    refine ox rfl rfl rfl rfl (ex_move rfl rfl) ?_
    refine ops_nil (at_then ?_)
    refine run_block ?_
    refine run_loop (fun k_ ρ_ w_ => ∃ a2156 : Int, slices_Index_string.l0 x0 x1 k_ a2156 = some o2150 ∧ ρ_ = [(0, p0), (1, .string x1), (7, .int .i64 (x0.length : Int)), (8, .int .i64 a2156)] ∧ Mem w [] w_ []) k (ρ1 := [(0, p0), (1, .string x1), (7, .int .i64 (x0.length : Int)), (8, .int .i64 0)]) ⟨_, ho2151, rfl, HM⟩ (Sub.cons rfl (Sub.cons rfl (Sub.cons rfl (Sub.cons rfl Sub.nil)))) ?_
    clear HM ho2151
    rintro k2161 _ w2162 ⟨a2156, ho2151, rfl, HM⟩
    obtain _ | k2161 := k2161
    · exact nomatch ((slices_Index_string.l0_z x0 x1 a2156).symm.trans ho2151)
    replace ho2151 := (slices_Index_string.l0_s x0 x1 k2161 a2156).symm.trans ho2151
    refine run_seq ?_
    refine run_region rfl ?_
    refine ox rfl rfl rfl rfl (ex_lss rfl rfl rfl) ?_
    refine ops_nil (at_then (run_seq ?_))
    refine run_cond (b := (decide (a2156 < (x0.length : Int)))) rfl (fun hb2163 => ?_) (fun hb2163 => ?_)
    · replace ho2151 := cond_t hb2163 ho2151
      refine run_skip ?_
      refine at_then ?_
      refine run_seq ?_
      refine run_block ?_
      refine run_seq ?_
      refine run_region rfl ?_
      refine ox rfl rfl rfl rfl (ex_move rfl rfl) ?_
      refine ox rfl rfl rfl rfl (ex_assign rfl rfl) ?_
      refine ops_nil (at_then (run_seq ?_))
      obtain ⟨e2164, ho2151⟩ := chk_some ho2151
      refine run_region rfl ?_
      refine ox rfl rfl rfl rfl (ex_move rfl rfl) ?_
      refine ox rfl rfl rfl rfl (ex_move rfl rfl) ?_
      refine ox rfl rfl rfl rfl (ex_move rfl rfl) ?_
      have hc2165 : CellsAt _ (sb p0) (so p0 + (a2156).toNat * 1) [(.string (gt x0 a2156))] := rd_plain hp0 e2164
      refine ox rfl rfl rfl rfl (ex_indexAddr (d := kStr) rfl rfl rfl Tryz.underlying72 tsz9 hp0 (idx_lo e2164) (idx_hi e2164)) ?_
      refine ox rfl rfl rfl rfl (ex_load1 rfl rfl Tryz.underlying9 rfl ((HM.at_ hc2165) 0 _ rfl)) ?_
      refine ox rfl rfl rfl rfl (ex_seql rfl rfl rfl) ?_
      refine ops_nil (at_then ?_)
      refine run_cond (b := (sEq x1 (gt x0 a2156))) rfl (fun hb2166 => ?_) (fun hb2166 => ?_)
      · replace ho2151 := cond_t hb2166 ho2151
        refine run_seq ?_
        refine run_region rfl ?_
        refine ox rfl rfl rfl rfl (ex_move rfl rfl) ?_
        refine ox rfl rfl rfl rfl (ex_assign rfl rfl) ?_
        refine ops_nil (at_then ?_)
        refine run_ret ?_
        refine at_block_ret ?_
        refine at_then_ret ?_
        refine at_then_ret ?_
        refine at_block_ret ?_
        refine at_then_ret ?_
        have hR := Option.some.inj ho2151
        subst hR
        have hT := thn_inl H
        have hR := Option.some.inj hT
        subst hR
        exact at_ret1 rfl rfl ⟨_, rfl, rfl, HM⟩
      · replace ho2151 := cond_f hb2166 ho2151
        refine run_skip ?_
        refine at_block ?_
        refine at_then ?_
        refine run_region rfl ?_
        refine ox rfl rfl rfl rfl (ex_add rfl rfl rfl) ?_
        refine ox rfl rfl rfl rfl (ex_move rfl rfl) ?_
        refine ops_nil ?_
        exact at_again k2161 (ρ1 := [(0, p0), (1, .string x1), (7, .int .i64 (x0.length : Int)), (8, .int .i64 (wrap64 (a2156 + 1)))]) (Nat.lt_succ_self _) ⟨_, ho2151, rfl, HM⟩ (Sub.cons rfl (Sub.cons rfl (Sub.cons rfl (Sub.cons rfl Sub.nil))))
    · replace ho2151 := cond_f hb2163 ho2151
      refine run_exit ?_
      refine at_then_exit ?_
      refine at_then_exit ?_
      refine at_block_exit ?_
      exact at_mid (ρ' := []) ⟨(Option.some.inj ho2151), rfl, HM⟩ Sub.nil
  · rintro _ w2167 ⟨rfl, rfl, HM⟩
    replace H := (thn_inr H)
    refine run_seq ?_
    refine run_region rfl ?_
    refine ox rfl rfl rfl rfl (ex_assign rfl rfl) ?_
    refine ops_nil (at_then ?_)
    refine run_ret ?_
    have hR := Option.some.inj H
    subst hR
    exact at_ret1 rfl rfl ⟨_, rfl, rfl, HM⟩

def strconv_ParseInt.f (k : Nat) (x0 : ByteArray) (x1 x2 : Int) : Option (Int × Bool) := (chk ((x1 == 10 && x2 == 64) && leB x0.size 281474976710656) (some (piR x0.data.toList (Lib.parseIntB 64 x0.data.toList))))
theorem strconv_ParseInt.calls {k : Nat} {x0 : ByteArray} {x1 x2 : Int} {w : World} (htab : TabP w) {r : Int × Bool} (H : strconv_ParseInt.f k x0 x1 x2 = some r) :
    Calls Tryz.prog 67 ([.string x0, .int .i64 x1, .int .i64 x2] : List Value).toArray w (fun e w_ => ∃ v, e = .returned v ∧ ∃ u0 : Value, ErrV u0 r.2 ∧ v = .tuple #[.int .i64 r.1, u0] ∧ Mem w [] w_ []) := by
  obtain ⟨h, H⟩ := chk_some H
  have hR := Option.some.inj H
  subst hR
  simp only [Bool.and_eq_true, beq_iff_eq] at h
  obtain ⟨⟨rfl, rfl⟩, h⟩ := h
  have h0 : x0.size ≤ 281474976710656 := leB_le h
  have hm : ∀ w_, Below w.heap.size w w_ → Mem w [] w_ [] := fun w_ hb => ⟨Fr.of_below hb nodr, [], .nil, List.nodup_nil, by simp⟩
  cases hp : Lib.parseIntB 64 x0.data.toList with
  | ok v =>
    refine (Tryz.strconv_ParseInt_10_at64_ok x0 (by omega) v hp w).mono fun e w_ ⟨he, hw⟩ => ⟨_, he, _, .inl ⟨rfl, rfl⟩, rfl, hm _ ?_⟩
    rcases hw with rfl | ⟨t, rfl⟩
    · exact Below.refl _ _
    · exact Lib.bytesWorld_below _ _ _
  | range =>
    obtain ⟨te, pe, hv⟩ := htab.rng
    exact (Tryz.strconv_ParseInt_10_at64_range x0 h0 hp _ w hv (.inr ⟨te, pe, rfl⟩)).mono fun e w_ ⟨N, he, _, _, hw⟩ => ⟨_, he, _, .inr ⟨rfl, _, _, rfl⟩, rfl, hm _ hw⟩
  | _ =>
    obtain ⟨te, pe, hv⟩ := htab.syn
    exact (Tryz.strconv_ParseInt_10_at64_syntax x0 h0 hp _ w hv (.inr ⟨te, pe, rfl⟩)).mono fun e w_ ⟨N, he, _, _, hw⟩ => ⟨_, he, _, .inr ⟨rfl, _, _, rfl⟩, rfl, hm _ hw⟩

def strconv_FormatInt.f (k : Nat) (x0 : Int) (x1 : Int) : Option ByteArray := (chk ((decide (-9223372036854775808 ≤ x0) && decide (x0 ≤ 9223372036854775807)) && (x1 == 10)) (some (⟨(Lib.itoa x0).toArray⟩ : ByteArray)))
theorem strconv_FormatInt.calls {k : Nat} {x0 x1 : Int} {w : World} (htab : TabP w) {r : ByteArray} (H : strconv_FormatInt.f k x0 x1 = some r) :
    Calls Tryz.prog 70 ([.int .i64 x0, .int .i64 x1] : List Value).toArray w (fun e w_ => ∃ v, e = .returned v ∧ v = (.string r) ∧ Mem w [] w_ []) := by
  obtain ⟨h, H⟩ := chk_some H
  have hR := Option.some.inj H
  subst hR
  simp only [Bool.and_eq_true, decide_eq_true_eq, beq_iff_eq] at h
  obtain ⟨⟨h0, h1⟩, rfl⟩ := h
  exact (Tryz.strconv_FormatInt_10 x0 h0 h1 w htab.tab).mono fun e w_ ⟨he, k, os, hw⟩ => ⟨_, he, rfl, hw ▸ mem_grow w k os⟩

def impl_dec.f (k : Nat) (x0 : Int) : Option ByteArray := ((strconv_FormatInt.f k x0 10).bind fun t2184 => some t2184)
theorem impl_dec.calls {k : Nat} {x0 : Int}  {w : World} (htab : TabP w)  {r : ByteArray} (H : impl_dec.f k x0 = some r) :
    Calls Tryz.prog 48 ([.int .i64 x0] : List Value).toArray w (fun e w_ => ∃ v, e = .returned v ∧ v = (.string r) ∧ Mem w [] w_ []) := by
  have HM := Mem.start w
  refine calls_run (N := 5) Tryz.func48 rfl rfl rfl rfl ?_
  unfold impl_dec.f at H
  refine run_seq ?_
  refine run_region rfl ?_
  refine ox rfl rfl rfl rfl (ex_assign rfl rfl) ?_
  refine ops_nil (at_then (run_seq ?_))
  obtain ⟨t2184, h2185, H⟩ := bind_some H
  refine run_region rfl ?_
  refine ox rfl rfl rfl rfl (ex_move rfl rfl) ?_
  refine od rfl rfl rfl rfl (does_callk rfl callok70 rfl (strconv_FormatInt.calls (x0 := x0) (x1 := 10) (HM.tabP htab) h2185)) ?_
  rintro _ w2186 ⟨rfl, hn⟩
  replace HM : Mem w [] w2186 [] := HM.call hn
  refine ox rfl rfl rfl rfl (ex_assign rfl rfl) ?_
  refine ops_nil (at_then ?_)
  refine run_ret ?_
  have hR := Option.some.inj H
  subst hR
  exact at_ret1 rfl rfl ⟨_, rfl, rfl, HM⟩

def impl_number.f (k : Nat) (x0 : ByteArray) : Option Int := ((strconv_ParseInt.f k x0 10 64).bind fun t2190 => ((bif (!((!t2190.2) || (decide (10 < (x0.size : Int))))) then impl_dec.f k t2190.1 else some default).bind fun t2195 => (bif (((!t2190.2) || (decide (10 < (x0.size : Int)))) || (!sEq t2195 x0)) then some (-1) else some t2190.1)))
theorem impl_number.calls {k : Nat} {x0 : ByteArray}  {w : World} (htab : TabP w)  {r : Int} (H : impl_number.f k x0 = some r) :
    Calls Tryz.prog 45 ([.string x0] : List Value).toArray w (fun e w_ => ∃ v, e = .returned v ∧ v = (.int .i64 r) ∧ Mem w [] w_ []) := by
  have HM := Mem.start w
  refine calls_run (N := 24) Tryz.func45 rfl rfl rfl rfl ?_
  unfold impl_number.f at H
  refine run_seq ?_
  refine run_region rfl ?_
  refine ox rfl rfl rfl rfl (ex_assign rfl rfl) ?_
  refine ops_nil (at_then (run_seq ?_))
  obtain ⟨t2190, h2191, H⟩ := bind_some H
  refine run_region rfl ?_
  refine ox rfl rfl rfl rfl (ex_move rfl rfl) ?_
  refine od rfl rfl rfl rfl (does_callk rfl callok67 rfl (strconv_ParseInt.calls (x0 := x0) (x1 := 10) (x2 := 64) (HM.tabP htab) h2191)) ?_
  rintro _ w2194 ⟨u2192, hE2193, rfl, hn⟩
  replace HM : Mem w [] w2194 [] := HM.call hn
  refine ox rfl rfl rfl rfl (ex_move rfl rfl) ?_
  refine ox rfl rfl rfl rfl (ex_extract rfl rfl rfl) ?_
  refine ox rfl rfl rfl rfl (ex_extract rfl rfl rfl) ?_
  refine ox rfl rfl rfl rfl (ex_assign rfl rfl) ?_
  refine ox rfl rfl rfl rfl (ex_assign rfl rfl) ?_
  refine ops_nil (at_then (run_seq ?_))
  refine run_seq ?_
  obtain ⟨t2195, h2196, H⟩ := bind_some H
  refine run_meet (fun ρ_ w_ => ρ_ = [(3, .int .i64 t2190.1), (22, .bool (((!t2190.2) || (decide (10 < (x0.size : Int)))) || (!sEq t2195 x0)))] ∧ Mem w [] w_ []) ?_ ?_
  · skip
    refine run_region rfl ?_
    refine ox rfl rfl rfl rfl (ex_move rfl rfl) ?_
    refine ox rfl rfl rfl rfl (ex_errneq rfl rfl rfl Tryz.underlying100 hE2193) ?_
    refine ox rfl rfl rfl rfl (ex_move rfl rfl) ?_
    refine bool_cases (!t2190.2) (fun hg2197 => ?_) (fun hg2197 => ?_)
    · skip
      refine ops_off rfl (guard_off rfl rfl rfl hg2197) rfl rfl ?_
      refine ops_off rfl (guard_off rfl rfl rfl hg2197) rfl rfl ?_
      refine ops_off rfl (guard_off rfl rfl rfl hg2197) rfl rfl ?_
      have hg2198 : ((!t2190.2) || (decide (10 < (x0.size : Int)))) = true := by simp only [hg2197, Bool.and_true, Bool.true_and, Bool.and_false, Bool.false_and, Bool.or_true, Bool.true_or, Bool.or_false, Bool.false_or, Bool.not_true, Bool.not_false, Bool.not_not]
      refine ops_ex (v := .bool ((!t2190.2) || (decide (10 < (x0.size : Int))))) rfl (guard_none rfl) rfl rfl (ex_por_t rfl rfl hg2197) ?_
      refine ox rfl rfl rfl rfl (ex_move rfl rfl) ?_
      refine ops_off rfl (guard_off rfl rfl rfl hg2198) rfl rfl ?_
      refine ops_off rfl (guard_off rfl rfl rfl hg2198) rfl rfl ?_
      refine ops_off rfl (guard_off rfl rfl rfl hg2198) rfl rfl ?_
      refine ops_off rfl (guard_off rfl rfl rfl hg2198) rfl rfl ?_
      have hg2199 : (((!t2190.2) || (decide (10 < (x0.size : Int)))) || (!sEq t2195 x0)) = true := by simp only [hg2198, Bool.and_true, Bool.true_and, Bool.and_false, Bool.false_and, Bool.or_true, Bool.true_or, Bool.or_false, Bool.false_or, Bool.not_true, Bool.not_false, Bool.not_not]
      refine ops_ex (v := .bool (((!t2190.2) || (decide (10 < (x0.size : Int)))) || (!sEq t2195 x0))) rfl (guard_none rfl) rfl rfl (ex_por_t rfl rfl hg2198) ?_
      refine ops_nil ?_
      exact at_meet [(3, .int .i64 t2190.1), (22, .bool (((!t2190.2) || (decide (10 < (x0.size : Int)))) || (!sEq t2195 x0)))] ⟨rfl, HM⟩ (Sub.cons rfl (Sub.cons rfl Sub.nil))
    · skip
      refine ops_ex rfl (guard_on rfl rfl rfl hg2197) rfl rfl (ex_move rfl rfl) ?_
      refine ops_ex rfl (guard_on rfl rfl rfl hg2197) rfl rfl (ex_strlen rfl rfl Tryz.underlying9) ?_
      refine ops_ex rfl (guard_on rfl rfl rfl hg2197) rfl rfl (ex_gtr rfl rfl rfl) ?_
      refine ops_ex (v := .bool ((!t2190.2) || (decide (10 < (x0.size : Int))))) rfl (guard_none rfl) rfl rfl (ex_por_f rfl rfl hg2197 rfl) ?_
      refine ox rfl rfl rfl rfl (ex_move rfl rfl) ?_
      refine bool_cases ((!t2190.2) || (decide (10 < (x0.size : Int)))) (fun hg2200 => ?_) (fun hg2200 => ?_)
      · skip
        refine ops_off rfl (guard_off rfl rfl rfl hg2200) rfl rfl ?_
        refine ops_off rfl (guard_off rfl rfl rfl hg2200) rfl rfl ?_
        refine ops_off rfl (guard_off rfl rfl rfl hg2200) rfl rfl ?_
        refine ops_off rfl (guard_off rfl rfl rfl hg2200) rfl rfl ?_
        have hg2201 : (((!t2190.2) || (decide (10 < (x0.size : Int)))) || (!sEq t2195 x0)) = true := by simp only [hg2200, Bool.and_true, Bool.true_and, Bool.and_false, Bool.false_and, Bool.or_true, Bool.true_or, Bool.or_false, Bool.false_or, Bool.not_true, Bool.not_false, Bool.not_not]
        refine ops_ex (v := .bool (((!t2190.2) || (decide (10 < (x0.size : Int)))) || (!sEq t2195 x0))) rfl (guard_none rfl) rfl rfl (ex_por_t rfl rfl hg2200) ?_
        refine ops_nil ?_
        exact at_meet [(3, .int .i64 t2190.1), (22, .bool (((!t2190.2) || (decide (10 < (x0.size : Int)))) || (!sEq t2195 x0)))] ⟨rfl, HM⟩ (Sub.cons rfl (Sub.cons rfl Sub.nil))
      · skip
        refine ops_ex rfl (guard_on rfl rfl rfl hg2200) rfl rfl (ex_move rfl rfl) ?_
        refine ops_does rfl (guard_on rfl rfl rfl hg2200) rfl rfl (does_callk rfl callok48 rfl (impl_dec.calls (x0 := t2190.1) (HM.tabP htab) (cond_t (not_mk hg2200) h2196))) ?_
        rintro _ w2202 ⟨rfl, hn⟩
        replace HM : Mem w [] w2202 [] := HM.call hn
        refine ops_ex rfl (guard_on rfl rfl rfl hg2200) rfl rfl (ex_move rfl rfl) ?_
        refine ops_ex rfl (guard_on rfl rfl rfl hg2200) rfl rfl (ex_sneq rfl rfl rfl) ?_
        refine ops_ex (v := .bool (((!t2190.2) || (decide (10 < (x0.size : Int)))) || (!sEq t2195 x0))) rfl (guard_none rfl) rfl rfl (ex_por_f rfl rfl hg2200 rfl) ?_
        refine ops_nil ?_
        exact at_meet [(3, .int .i64 t2190.1), (22, .bool (((!t2190.2) || (decide (10 < (x0.size : Int)))) || (!sEq t2195 x0)))] ⟨rfl, HM⟩ (Sub.cons rfl (Sub.cons rfl Sub.nil))
  · rintro _ w2203 ⟨rfl, HM⟩
    refine at_then ?_
    refine run_cond (b := (((!t2190.2) || (decide (10 < (x0.size : Int)))) || (!sEq t2195 x0))) rfl (fun hb2204 => ?_) (fun hb2204 => ?_)
    · replace H := cond_t hb2204 H
      refine run_seq ?_
      refine run_region rfl ?_
      refine ox rfl rfl rfl rfl (ex_assign rfl rfl) ?_
      refine ops_nil (at_then ?_)
      refine run_ret ?_
      refine at_then_ret ?_
      have hR := Option.some.inj H
      subst hR
      exact at_ret1 rfl rfl ⟨_, rfl, rfl, HM⟩
    · replace H := cond_f hb2204 H
      refine run_skip ?_
      refine at_then ?_
      refine run_seq ?_
      refine run_region rfl ?_
      refine ox rfl rfl rfl rfl (ex_move rfl rfl) ?_
      refine ox rfl rfl rfl rfl (ex_assign rfl rfl) ?_
      refine ops_nil (at_then ?_)
      refine run_ret ?_
      have hR := Option.some.inj H
      subst hR
      exact at_ret1 rfl rfl ⟨_, rfl, rfl, HM⟩
end Go.Proofs.YtmaolhocmkkmjaaGreatDoor.Zk
