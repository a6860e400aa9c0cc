/- What functions of the program compute, each as a plain function, and that they do. Conditions: as each theorem states them. -/
import Derived.Test.YtbbcabpnkdilgaaFnMembersZkF1
namespace Go.Proofs.Ytbbcabpnkdilgaa.Zk
open Go Go.RowKit Go.IntWalk Go.Proofs
set_option linter.unusedVariables false
set_option linter.unusedSimpArgs false
set_option maxRecDepth 100000
set_option maxHeartbeats 4000000
def spec_l3Draw.l0 (x0 : l1Src) : Nat → Int → (List Ref) → Int → Option (Int × (List Ref))
  | 0, _, _, _ => none
  | k + 1, a1708, a1710, a1712 => (bif (decide (0 < a1712)) then ((spec_l1Next.f k (⟨x0.fCode, a1708⟩ : l1Src) 6).bind fun t1746 => ((spec_l1Next.f k (⟨x0.fCode, t1746.2⟩ : l1Src) 2).bind fun t1754 => ((spec_l3Among.f k a1710 (⟨wrap64 (1 + t1746.1), t1754.1⟩ : Ref)).bind fun t1769 => (bif !t1769 then (chk (leB ((a1710.length + ([(⟨wrap64 (1 + t1746.1), t1754.1⟩ : Ref)] : List Ref).length) * 16) 140737488355328) (spec_l3Draw.l0 x0 k t1754.2 (a1710 ++ ([(⟨wrap64 (1 + t1746.1), t1754.1⟩ : Ref)] : List Ref)) (wrap64 (a1712 - 1)))) else spec_l3Draw.l0 x0 k t1754.2 a1710 (wrap64 (a1712 - 1)))))) else some (a1708, a1710))
theorem spec_l3Draw.l0_z (x0 : l1Src) (a1708 : Int) (a1710 : List Ref) (a1712 : Int) : spec_l3Draw.l0 x0 0 a1708 a1710 a1712 = none := rfl
theorem spec_l3Draw.l0_s (x0 : l1Src) (k : Nat) (a1708 : Int) (a1710 : List Ref) (a1712 : Int) : spec_l3Draw.l0 x0 (k + 1) a1708 a1710 a1712 = (bif (decide (0 < a1712)) then ((spec_l1Next.f k (⟨x0.fCode, a1708⟩ : l1Src) 6).bind fun t1746 => ((spec_l1Next.f k (⟨x0.fCode, t1746.2⟩ : l1Src) 2).bind fun t1754 => ((spec_l3Among.f k a1710 (⟨wrap64 (1 + t1746.1), t1754.1⟩ : Ref)).bind fun t1769 => (bif !t1769 then (chk (leB ((a1710.length + ([(⟨wrap64 (1 + t1746.1), t1754.1⟩ : Ref)] : List Ref).length) * 16) 140737488355328) (spec_l3Draw.l0 x0 k t1754.2 (a1710 ++ ([(⟨wrap64 (1 + t1746.1), t1754.1⟩ : Ref)] : List Ref)) (wrap64 (a1712 - 1)))) else spec_l3Draw.l0 x0 k t1754.2 a1710 (wrap64 (a1712 - 1)))))) else some (a1708, a1710)) := rfl
def spec_l3Draw.l1 (x0 : l1Src) : Nat → Int → (List Out) → Int → Option (Int × (List Out))
  | 0, _, _, _ => none
  | k + 1, a1911, a1913, a1915 => (bif (decide (0 < a1915)) then ((spec_l1Next.f k (⟨x0.fCode, a1911⟩ : l1Src) 99).bind fun t1945 => ((spec_l2Draw.f k (⟨x0.fCode, t1945.2⟩ : l1Src)).bind fun t1953 => (chk (leB ((a1913.length + ([(⟨wrap64 (100 + t1945.1), (⟨t1953.1.fKeys, t1953.1.fNeed, t1953.1.fAfter⟩ : Rule)⟩ : Out)] : List Out).length) * 48) 140737488355328) (spec_l3Draw.l1 x0 k t1953.2 (a1913 ++ ([(⟨wrap64 (100 + t1945.1), (⟨t1953.1.fKeys, t1953.1.fNeed, t1953.1.fAfter⟩ : Rule)⟩ : Out)] : List Out)) (wrap64 (a1915 - 1)))))) else some (a1911, a1913))
theorem spec_l3Draw.l1_z (x0 : l1Src) (a1911 : Int) (a1913 : List Out) (a1915 : Int) : spec_l3Draw.l1 x0 0 a1911 a1913 a1915 = none := rfl
theorem spec_l3Draw.l1_s (x0 : l1Src) (k : Nat) (a1911 : Int) (a1913 : List Out) (a1915 : Int) : spec_l3Draw.l1 x0 (k + 1) a1911 a1913 a1915 = (bif (decide (0 < a1915)) then ((spec_l1Next.f k (⟨x0.fCode, a1911⟩ : l1Src) 99).bind fun t1945 => ((spec_l2Draw.f k (⟨x0.fCode, t1945.2⟩ : l1Src)).bind fun t1953 => (chk (leB ((a1913.length + ([(⟨wrap64 (100 + t1945.1), (⟨t1953.1.fKeys, t1953.1.fNeed, t1953.1.fAfter⟩ : Rule)⟩ : Out)] : List Out).length) * 48) 140737488355328) (spec_l3Draw.l1 x0 k t1953.2 (a1913 ++ ([(⟨wrap64 (100 + t1945.1), (⟨t1953.1.fKeys, t1953.1.fNeed, t1953.1.fAfter⟩ : Rule)⟩ : Out)] : List Out)) (wrap64 (a1915 - 1)))))) else some (a1911, a1913)) := rfl
def spec_l3Draw.f (k : Nat) (x0 : l1Src) : Option (Tx × Int) := ((spec_l1Pick.f k x0 ([0, 0, 0, 1, 2] : List Int)).bind fun t1447 => ((bif (t1447.1 != 0) then ((spec_l1Next.f k (⟨x0.fCode, t1447.2⟩ : l1Src) 4).bind fun t1485 => some (t1485.2, wrap64 (1 + t1485.1))) else some (t1447.2, 0)).bind (cur2 (fun a1480 a1481 => (((spec_l1Next.f k (⟨x0.fCode, a1480⟩ : l1Src) 2).bind fun t1636 => spec_l3Draw.l0 x0 k t1636.2 ([] : List Ref) (wrap64 (1 + t1636.1))).bind (cur2 (fun a1630 a1632 => (((spec_l1Next.f k (⟨x0.fCode, a1630⟩ : l1Src) 2).bind fun t1877 => spec_l3Draw.l1 x0 k t1877.2 ([] : List Out) (wrap64 (1 + t1877.1))).bind (cur2 (fun a1871 a1873 => some ((⟨t1447.1, a1481, a1632, a1873⟩ : Tx), a1871)))))))))))
theorem spec_l3Draw.calls {k : Nat} {x0 : l1Src} {b0 : Nat} {p0_0 : Value} {w wo : World} {X : List Nat} (hwo : Olds wo w X) (hX : Hold w [box b0 150 [p0_0, .int .i64 x0.fAt]] X) (hXn : X.Nodup) (hXl : ∀ b ∈ X, b < w.heap.size) (hp0_0 : RdS kU8 wo p0_0 x0.fCode) {r : Tx × Int} (H : spec_l3Draw.f k x0 = some r) :
    Calls Try.prog 49 ([.pointer (some ⟨b0, 0, none⟩)] : List Value).toArray w (fun e w_ => ∃ v, e = .returned v ∧ ∃ u0 : Value, ∃ u1 : Value, v = (.agg #[.int .i64 r.1.fKind, .int .i64 r.1.fMember, u0, u1]) ∧ Mem w X w_ [own kRef 36 u0 r.1.fIns, own kOut 69 u1 r.1.fOuts, box b0 150 [p0_0, .int .i64 r.2]]) := by
  have HM := Mem.startX hX hXn hXl
  refine calls_run (N := 61) Try.func49 rfl rfl rfl rfl ?_
  unfold spec_l3Draw.f at H
  refine run_seq ?_
  refine run_region rfl ?_
  refine od rfl rfl rfl rfl (does_alloc (cs := [.int .i64 0, .int .i64 0, .slice none 0 0, .slice none 0 0]) rfl tz28 rfl HM) ?_
  rintro _ w1443 ⟨b1440, rfl, HM⟩
  refine ops_nil (at_then (run_seq ?_))
  obtain ⟨t1447, h1448, H⟩ := bind_some H
  refine run_region rfl ?_
  refine ox rfl rfl rfl rfl (ex_move rfl rfl) ?_
  refine od rfl rfl rfl rfl (does_lit (e := 2) (cs := [.int .i64 0, .int .i64 0, .int .i64 0, .int .i64 1, .int .i64 2]) (xs := ([0, 0, 0, 1, 2] : List Int)) kInt rfl rfl (fun _ => by kernel_rfl) rfl rfl (fun _ _ h => by have h' : _ = [] := h; subst h'; exact (Elems.cons (d := kInt) (x := 0) (f := []) ⟨rfl, rfl⟩ (Elems.cons (d := kInt) (x := 0) (f := []) ⟨rfl, rfl⟩ (Elems.cons (d := kInt) (x := 0) (f := []) ⟨rfl, rfl⟩ (Elems.cons (d := kInt) (x := 1) (f := []) ⟨rfl, rfl⟩ (Elems.cons (d := kInt) (x := 2) (f := []) ⟨rfl, rfl⟩ .nil)))))) HM.emp) ?_
  rintro v1444 w1458 HM
  replace HM := HM.front 2 rfl rfl
  obtain ⟨F1449, hF1450, hFn1451, hFl1452, HMh1453, hcl1454⟩ := HM.hide (Ms := [box b0 150 [p0_0, .int .i64 x0.fAt]])
  refine od rfl rfl rfl rfl (does_callk rfl callok53 rfl (spec_l1Pick.calls (x0 := x0) (x1 := ([0, 0, 0, 1, 2] : List Int)) (hide_olds _ _) hF1450 hFn1451 hFl1452 (HMh1453.rdo hwo hp0_0) (HMh1453.own_rd 0 rfl) h1448)) ?_
  rintro _ w1459 ⟨rfl, hn⟩
  replace HM : Mem w X w1459 [box b0 150 [p0_0, .int .i64 t1447.2], own kInt 2 v1444 ([0, 0, 0, 1, 2] : List Int), box b1440 28 [.int .i64 0, .int .i64 0, .slice none 0 0, .slice none 0 0]] := hcl1454 _ _ hn
  refine ox rfl rfl rfl rfl (ex_build (cells := #[(.int .i64 t1447.1), (.int .i64 0), (.slice none 0 0), (.slice none 0 0)]) rfl rfl (by kernel_rfl)) ?_
  refine od rfl rfl rfl rfl (does_alloc (cs := [.int .i64 0, .int .i64 0, .slice none 0 0, .slice none 0 0]) rfl tz28 rfl HM) ?_
  rintro _ w1460 ⟨b1455, rfl, HM⟩
  refine odS rfl rfl rfl (does_store (vs := [.int .i64 t1447.1, .int .i64 0, .slice none 0 0, .slice none 0 0]) (cs' := [.int .i64 t1447.1, .int .i64 0, .slice none 0 0, .slice none 0 0]) rfl rfl rfl rfl tsz28 (Ones.int (Ones.int (Ones.sl (Ones.sl Ones.nil)))) rfl rfl HM) ?_
  rintro w1461 HM
  refine ops_nil (at_then ?_)
  obtain ⟨o1482, ho1483, H⟩ := bind_some H
  refine run_mid (fun ρ_ w_ => ∃ a1480 : Int, ∃ a1481 : Int, (a1480, a1481) = o1482 ∧ ρ_ = [(0, .pointer (some ⟨b0, 0, none⟩)), (2, .pointer (some ⟨b1440, 0, none⟩)), (3, .pointer (some ⟨b1455, 0, none⟩))] ∧ Mem w X w_ [box b0 150 [p0_0, .int .i64 a1480], box b1440 28 [.int .i64 0, .int .i64 0, .slice none 0 0, .slice none 0 0], box b1455 28 [.int .i64 t1447.1, .int .i64 a1481, .slice none 0 0, .slice none 0 0]]) ?_ ?_
  · clear H
    refine run_seq ?_
    refine run_region rfl ?_
    refine ox rfl rfl rfl rfl (ex_fieldAddr (off' := 0) rfl rfl Try.underlying28 rfl tsz2 rfl) ?_
    refine ox rfl rfl rfl rfl (ex_load1 rfl rfl Try.underlying2 rfl ((HM.box_at 0 rfl) 0 _ rfl)) ?_
    refine ox rfl rfl rfl rfl (ex_neq rfl rfl rfl) ?_
    refine ops_nil (at_then ?_)
    refine run_cond (b := (t1447.1 != 0)) rfl (fun hb1484 => ?_) (fun hb1484 => ?_)
    · replace ho1483 := cond_t hb1484 ho1483
      obtain ⟨t1485, h1486, ho1483⟩ := bind_some ho1483
      refine run_region rfl ?_
      refine ox rfl rfl rfl rfl (ex_move rfl rfl) ?_
      replace HM := HM.front 1 rfl rfl
      obtain ⟨F1487, hF1488, hFn1489, hFl1490, HMh1491, hcl1492⟩ := HM.hide (Ms := [box b0 150 [p0_0, .int .i64 t1447.2]])
      refine od rfl rfl rfl rfl (does_callk rfl callok52 rfl (spec_l1Next.calls (x0 := (⟨x0.fCode, t1447.2⟩ : l1Src)) (x1 := 4) (hide_olds _ _) hF1488 hFn1489 hFl1490 (HMh1491.rdo hwo hp0_0) h1486)) ?_
      rintro _ w1493 ⟨rfl, hn⟩
      replace HM : Mem w X w1493 [box b0 150 [p0_0, .int .i64 t1485.2], box b1455 28 [.int .i64 t1447.1, .int .i64 0, .slice none 0 0, .slice none 0 0], own kInt 2 v1444 ([0, 0, 0, 1, 2] : List Int), box b1440 28 [.int .i64 0, .int .i64 0, .slice none 0 0, .slice none 0 0]] := hcl1492 _ _ hn
      refine ox rfl rfl rfl rfl (ex_add rfl rfl rfl) ?_
      refine ox rfl rfl rfl rfl (ex_fieldAddr (off' := 1) rfl rfl Try.underlying28 rfl tsz2 rfl) ?_
      replace HM := HM.front 1 rfl rfl
      refine odS rfl rfl rfl (does_store (vs := [.int .i64 (wrap64 (1 + t1485.1))]) (cs' := [.int .i64 t1447.1, .int .i64 (wrap64 (1 + t1485.1)), .slice none 0 0, .slice none 0 0]) rfl rfl rfl rfl tsz2 (Ones.int Ones.nil) rfl rfl HM) ?_
      rintro w1494 HM
      refine ops_nil ?_
      replace HM := (HM.front 2 rfl rfl).drop
      replace HM := HM.front 2 rfl rfl
      replace HM := HM.front 2 rfl rfl
      exact at_mid (ρ' := [(0, .pointer (some ⟨b0, 0, none⟩)), (2, .pointer (some ⟨b1440, 0, none⟩)), (3, .pointer (some ⟨b1455, 0, none⟩))]) ⟨_, _, (Option.some.inj ho1483), rfl, HM⟩ (Sub.cons rfl (Sub.cons rfl (Sub.cons rfl Sub.nil)))
    · replace ho1483 := cond_f hb1484 ho1483
      refine run_skip ?_
      replace HM := (HM.front 2 rfl rfl).drop
      replace HM := HM.front 2 rfl rfl
      replace HM := HM.front 2 rfl rfl
      exact at_mid (ρ' := [(0, .pointer (some ⟨b0, 0, none⟩)), (2, .pointer (some ⟨b1440, 0, none⟩)), (3, .pointer (some ⟨b1455, 0, none⟩))]) ⟨_, _, (Option.some.inj ho1483), rfl, HM⟩ (Sub.cons rfl (Sub.cons rfl (Sub.cons rfl Sub.nil)))
  · rintro _ w1495 ⟨a1480, a1481, rfl, rfl, HM⟩
    replace H := cur2_mk H
    obtain ⟨o1634, ho1635, H⟩ := bind_some H
    refine run_mid (fun ρ_ w_ => ∃ a1630 : Int, ∃ v1631 : Value, ∃ a1632 : List Ref, (a1630, a1632) = o1634 ∧ ρ_ = [(0, .pointer (some ⟨b0, 0, none⟩)), (2, .pointer (some ⟨b1440, 0, none⟩)), (3, .pointer (some ⟨b1455, 0, none⟩))] ∧ Mem w X w_ [box b0 150 [p0_0, .int .i64 a1630], box b1440 28 [.int .i64 0, .int .i64 0, .slice none 0 0, .slice none 0 0], box b1455 28 [.int .i64 t1447.1, .int .i64 a1481, v1631, .slice none 0 0], own kRef 36 v1631 a1632]) ?_ ?_
    · clear H
      refine run_seq ?_
      obtain ⟨t1636, h1637, ho1635⟩ := bind_some ho1635
      refine run_region rfl ?_
      refine ox rfl rfl rfl rfl (ex_move rfl rfl) ?_
      obtain ⟨F1638, hF1639, hFn1640, hFl1641, HMh1642, hcl1643⟩ := HM.hide (Ms := [box b0 150 [p0_0, .int .i64 a1480]])
      refine od rfl rfl rfl rfl (does_callk rfl callok52 rfl (spec_l1Next.calls (x0 := (⟨x0.fCode, a1480⟩ : l1Src)) (x1 := 2) (hide_olds _ _) hF1639 hFn1640 hFl1641 (HMh1642.rdo hwo hp0_0) h1637)) ?_
      rintro _ w1644 ⟨rfl, hn⟩
      replace HM : Mem w X w1644 [box b0 150 [p0_0, .int .i64 t1636.2], box b1440 28 [.int .i64 0, .int .i64 0, .slice none 0 0, .slice none 0 0], box b1455 28 [.int .i64 t1447.1, .int .i64 a1481, .slice none 0 0, .slice none 0 0]] := hcl1643 _ _ hn
      refine ox rfl rfl rfl rfl (ex_add rfl rfl rfl) ?_
      refine ox rfl rfl rfl rfl (ex_assign rfl rfl) ?_
      refine ops_nil (at_then ?_)
      refine run_block ?_
      replace HM := HM.empty kRef 36 none
      replace HM := HM.front 3 rfl rfl
      replace HM := HM.front 3 rfl rfl
      replace HM := HM.front 3 rfl rfl
      refine run_loop (fun k_ ρ_ w_ => ∃ a1708 : Int, ∃ v1709 : Value, ∃ a1710 : List Ref, ∃ a1712 : Int, spec_l3Draw.l0 x0 k_ a1708 a1710 a1712 = some o1634 ∧ ρ_ = [(0, .pointer (some ⟨b0, 0, none⟩)), (2, .pointer (some ⟨b1440, 0, none⟩)), (3, .pointer (some ⟨b1455, 0, none⟩)), (4, .int .i64 a1712)] ∧ Mem w X w_ [box b0 150 [p0_0, .int .i64 a1708], box b1440 28 [.int .i64 0, .int .i64 0, .slice none 0 0, .slice none 0 0], box b1455 28 [.int .i64 t1447.1, .int .i64 a1481, v1709, .slice none 0 0], own kRef 36 v1709 a1710]) k (ρ1 := [(0, .pointer (some ⟨b0, 0, none⟩)), (2, .pointer (some ⟨b1440, 0, none⟩)), (3, .pointer (some ⟨b1455, 0, none⟩)), (4, .int .i64 (wrap64 (1 + t1636.1)))]) ⟨_, _, _, _, ho1635, rfl, HM⟩ (Sub.cons rfl (Sub.cons rfl (Sub.cons rfl (Sub.cons rfl Sub.nil)))) ?_
      clear HM ho1635
      rintro k1743 _ w1744 ⟨a1708, v1709, a1710, a1712, ho1635, rfl, HM⟩
      obtain _ | k1743 := k1743
      · exact nomatch ((spec_l3Draw.l0_z x0 a1708 a1710 a1712).symm.trans ho1635)
      replace ho1635 := (spec_l3Draw.l0_s x0 k1743 a1708 a1710 a1712).symm.trans ho1635
      refine run_seq ?_
      refine run_seq ?_
      refine run_region rfl ?_
      refine ox rfl rfl rfl rfl (ex_move rfl rfl) ?_
      refine ox rfl rfl rfl rfl (ex_gtr rfl rfl rfl) ?_
      refine ops_nil (at_then ?_)
      refine run_cond (b := (decide (0 < a1712))) rfl (fun hb1745 => ?_) (fun hb1745 => ?_)
      · replace ho1635 := cond_t hb1745 ho1635
        refine run_skip ?_
        refine at_then ?_
        refine run_seq ?_
        refine run_block ?_
        refine run_seq ?_
        obtain ⟨t1746, h1747, ho1635⟩ := bind_some ho1635
        obtain ⟨t1754, h1755, ho1635⟩ := bind_some ho1635
        refine run_region rfl ?_
        refine ox rfl rfl rfl rfl (ex_move rfl rfl) ?_
        obtain ⟨F1748, hF1749, hFn1750, hFl1751, HMh1752, hcl1753⟩ := HM.hide (Ms := [box b0 150 [p0_0, .int .i64 a1708]])
        refine od rfl rfl rfl rfl (does_callk rfl callok52 rfl (spec_l1Next.calls (x0 := (⟨x0.fCode, a1708⟩ : l1Src)) (x1 := 6) (hide_olds _ _) hF1749 hFn1750 hFl1751 (HMh1752.rdo hwo hp0_0) h1747)) ?_
        rintro _ w1765 ⟨rfl, hn⟩
        replace HM : Mem w X w1765 [box b0 150 [p0_0, .int .i64 t1746.2], box b1440 28 [.int .i64 0, .int .i64 0, .slice none 0 0, .slice none 0 0], box b1455 28 [.int .i64 t1447.1, .int .i64 a1481, v1709, .slice none 0 0], own kRef 36 v1709 a1710] := hcl1753 _ _ hn
        refine ox rfl rfl rfl rfl (ex_add rfl rfl rfl) ?_
        refine ox rfl rfl rfl rfl (ex_move rfl rfl) ?_
        obtain ⟨F1756, hF1757, hFn1758, hFl1759, HMh1760, hcl1761⟩ := HM.hide (Ms := [box b0 150 [p0_0, .int .i64 t1746.2]])
        refine od rfl rfl rfl rfl (does_callk rfl callok52 rfl (spec_l1Next.calls (x0 := (⟨x0.fCode, t1746.2⟩ : l1Src)) (x1 := 2) (hide_olds _ _) hF1757 hFn1758 hFl1759 (HMh1760.rdo hwo hp0_0) h1755)) ?_
        rintro _ w1766 ⟨rfl, hn⟩
        replace HM : Mem w X w1766 [box b0 150 [p0_0, .int .i64 t1754.2], box b1440 28 [.int .i64 0, .int .i64 0, .slice none 0 0, .slice none 0 0], box b1455 28 [.int .i64 t1447.1, .int .i64 a1481, v1709, .slice none 0 0], own kRef 36 v1709 a1710] := hcl1761 _ _ hn
        refine ox rfl rfl rfl rfl (ex_build (cells := #[(.int .i64 (wrap64 (1 + t1746.1))), (.int .i64 t1754.1)]) rfl rfl (by kernel_rfl)) ?_
        refine od rfl rfl rfl rfl (does_alloc (cs := [.int .i64 0, .int .i64 0]) rfl tz36 rfl HM) ?_
        rintro _ w1767 ⟨b1762, rfl, HM⟩
        refine odS rfl rfl rfl (does_store (vs := [.int .i64 (wrap64 (1 + t1746.1)), .int .i64 t1754.1]) (cs' := [.int .i64 (wrap64 (1 + t1746.1)), .int .i64 t1754.1]) rfl rfl rfl rfl tsz36 (Ones.int (Ones.int Ones.nil)) rfl rfl HM) ?_
        rintro w1768 HM
        refine ops_nil (at_then (run_seq ?_))
        obtain ⟨t1769, h1770, ho1635⟩ := bind_some ho1635
        refine run_region rfl ?_
        refine ox rfl rfl rfl rfl (ex_fieldAddr (off' := 2) rfl rfl Try.underlying28 rfl tsz25 rfl) ?_
        refine ox rfl rfl rfl rfl (ex_load1 rfl rfl Try.underlying25 rfl ((HM.box_at 3 rfl) 2 _ rfl)) ?_
        refine ox rfl rfl rfl rfl (ex_loadN (cs := [(.int .i64 (wrap64 (1 + t1746.1))), (.int .i64 t1754.1)]) rfl rfl Try.underlying36 rfl tsz36 rfl ((HM.box_at 0 rfl).sub 0 2 rfl)) ?_
        refine od rfl rfl rfl rfl (does_callk rfl callok104 rfl (spec_l3Among.calls (x0 := a1710) (x1 := (⟨wrap64 (1 + t1746.1), t1754.1⟩ : Ref)) (HM.own_rd 4 rfl) h1770)) ?_
        rintro _ w1771 ⟨rfl, hn⟩
        replace HM : Mem w X w1771 [box b1762 36 [.int .i64 (wrap64 (1 + t1746.1)), .int .i64 t1754.1], box b0 150 [p0_0, .int .i64 t1754.2], box b1440 28 [.int .i64 0, .int .i64 0, .slice none 0 0, .slice none 0 0], box b1455 28 [.int .i64 t1447.1, .int .i64 a1481, v1709, .slice none 0 0], own kRef 36 v1709 a1710] := HM.call hn
        refine ox rfl rfl rfl rfl (ex_not rfl rfl) ?_
        refine ops_nil (at_then ?_)
        refine run_cond (b := !t1769) rfl (fun hb1772 => ?_) (fun hb1772 => ?_)
        · replace ho1635 := cond_t hb1772 ho1635
          obtain ⟨e1776, ho1635⟩ := chk_some ho1635
          refine run_region rfl ?_
          refine ox rfl rfl rfl rfl (ex_fieldAddr (off' := 2) rfl rfl Try.underlying28 rfl tsz25 rfl) ?_
          refine ox rfl rfl rfl rfl (ex_load1 rfl rfl Try.underlying25 rfl ((HM.box_at 3 rfl) 2 _ rfl)) ?_
          refine ox rfl rfl rfl rfl (ex_loadN (cs := [(.int .i64 (wrap64 (1 + t1746.1))), (.int .i64 t1754.1)]) rfl rfl Try.underlying36 rfl tsz36 rfl ((HM.box_at 0 rfl).sub 0 2 rfl)) ?_
          refine od rfl rfl rfl rfl (does_lit (e := 36) (cs := [.int .i64 (wrap64 (1 + t1746.1)), .int .i64 t1754.1]) (xs := ([(⟨wrap64 (1 + t1746.1), t1754.1⟩ : Ref)] : List Ref)) kRef rfl rfl (fun _ => by kernel_rfl) rfl rfl (fun _ _ h => by have h' : _ = [] := h; subst h'; exact (Elems.cons (d := kRef) (x := (⟨wrap64 (1 + t1746.1), t1754.1⟩ : Ref)) (f := []) ⟨rfl, rfl⟩ .nil)) HM.emp) ?_
          rintro v1773 w1779 HM
          replace HM := HM.front 5 rfl rfl
          refine od rfl rfl rfl rfl (does_appendR kRef flat_plain rfl rfl rfl Try.underlying25 tsz36 rfl tby36 tz36 rfl rfl (leB_le e1776) (HM.own_rd 1 rfl) HM) ?_
          rintro v1777 w1780 HM
          refine ox rfl rfl rfl rfl (ex_fieldAddr (off' := 2) rfl rfl Try.underlying28 rfl tsz25 rfl) ?_
          replace HM := HM.front 5 rfl rfl
          refine odS rfl rfl rfl (does_store (vs := [v1777]) (cs' := [.int .i64 t1447.1, .int .i64 a1481, v1777, .slice none 0 0]) rfl rfl rfl (rd_cells (HM.own_rd 1 rfl)) tsz25 (Ones.rd (HM.own_rd 1 rfl) Ones.nil) rfl rfl HM) ?_
          rintro w1781 HM
          refine ops_nil ?_
          refine at_block ?_
          refine at_then ?_
          refine run_region rfl ?_
          refine ox rfl rfl rfl rfl (ex_move rfl rfl) ?_
          refine ox rfl rfl rfl rfl (ex_sub rfl rfl rfl) ?_
          refine ox rfl rfl rfl rfl (ex_assign rfl rfl) ?_
          refine ops_nil ?_
          replace HM := (HM.front 2 rfl rfl).drop
          replace HM := (HM.front 2 rfl rfl).drop
          replace HM := HM.front 1 rfl rfl
          replace HM := HM.front 1 rfl rfl
          replace HM := HM.front 3 rfl rfl
          replace HM := HM.front 3 rfl rfl
          exact at_again k1743 (ρ1 := [(0, .pointer (some ⟨b0, 0, none⟩)), (2, .pointer (some ⟨b1440, 0, none⟩)), (3, .pointer (some ⟨b1455, 0, none⟩)), (4, .int .i64 (wrap64 (a1712 - 1)))]) (Nat.lt_succ_self _) ⟨_, _, _, _, ho1635, rfl, HM⟩ (Sub.cons rfl (Sub.cons rfl (Sub.cons rfl (Sub.cons rfl Sub.nil))))
        · replace ho1635 := cond_f hb1772 ho1635
          refine run_skip ?_
          refine at_block ?_
          refine at_then ?_
          refine run_region rfl ?_
          refine ox rfl rfl rfl rfl (ex_move rfl rfl) ?_
          refine ox rfl rfl rfl rfl (ex_sub rfl rfl rfl) ?_
          refine ox rfl rfl rfl rfl (ex_assign rfl rfl) ?_
          refine ops_nil ?_
          replace HM := (HM.front 0 rfl rfl).drop
          exact at_again k1743 (ρ1 := [(0, .pointer (some ⟨b0, 0, none⟩)), (2, .pointer (some ⟨b1440, 0, none⟩)), (3, .pointer (some ⟨b1455, 0, none⟩)), (4, .int .i64 (wrap64 (a1712 - 1)))]) (Nat.lt_succ_self _) ⟨_, _, _, _, ho1635, rfl, HM⟩ (Sub.cons rfl (Sub.cons rfl (Sub.cons rfl (Sub.cons rfl Sub.nil))))
      · replace ho1635 := cond_f hb1745 ho1635
        refine run_exit ?_
        refine at_then_exit ?_
        refine at_then_exit ?_
        refine at_block_exit ?_
        exact at_mid (ρ' := [(0, .pointer (some ⟨b0, 0, none⟩)), (2, .pointer (some ⟨b1440, 0, none⟩)), (3, .pointer (some ⟨b1455, 0, none⟩))]) ⟨_, _, _, (Option.some.inj ho1635), rfl, HM⟩ (Sub.cons rfl (Sub.cons rfl (Sub.cons rfl Sub.nil)))
    · rintro _ w1782 ⟨a1630, v1631, a1632, rfl, rfl, HM⟩
      replace H := cur2_mk H
      obtain ⟨o1875, ho1876, H⟩ := bind_some H
      refine run_mid (fun ρ_ w_ => ∃ a1871 : Int, ∃ v1872 : Value, ∃ a1873 : List Out, (a1871, a1873) = o1875 ∧ ρ_ = [(2, .pointer (some ⟨b1440, 0, none⟩)), (3, .pointer (some ⟨b1455, 0, none⟩))] ∧ Mem w X w_ [box b0 150 [p0_0, .int .i64 a1871], box b1440 28 [.int .i64 0, .int .i64 0, .slice none 0 0, .slice none 0 0], box b1455 28 [.int .i64 t1447.1, .int .i64 a1481, v1631, v1872], own kRef 36 v1631 a1632, own kOut 69 v1872 a1873]) ?_ ?_
      · clear H
        refine run_seq ?_
        obtain ⟨t1877, h1878, ho1876⟩ := bind_some ho1876
        refine run_region rfl ?_
        refine ox rfl rfl rfl rfl (ex_move rfl rfl) ?_
        obtain ⟨F1879, hF1880, hFn1881, hFl1882, HMh1883, hcl1884⟩ := HM.hide (Ms := [box b0 150 [p0_0, .int .i64 a1630]])
        refine od rfl rfl rfl rfl (does_callk rfl callok52 rfl (spec_l1Next.calls (x0 := (⟨x0.fCode, a1630⟩ : l1Src)) (x1 := 2) (hide_olds _ _) hF1880 hFn1881 hFl1882 (HMh1883.rdo hwo hp0_0) h1878)) ?_
        rintro _ w1885 ⟨rfl, hn⟩
        replace HM : Mem w X w1885 [box b0 150 [p0_0, .int .i64 t1877.2], box b1440 28 [.int .i64 0, .int .i64 0, .slice none 0 0, .slice none 0 0], box b1455 28 [.int .i64 t1447.1, .int .i64 a1481, v1631, .slice none 0 0], own kRef 36 v1631 a1632] := hcl1884 _ _ hn
        refine ox rfl rfl rfl rfl (ex_add rfl rfl rfl) ?_
        refine ox rfl rfl rfl rfl (ex_assign rfl rfl) ?_
        refine ops_nil (at_then ?_)
        refine run_block ?_
        replace HM := HM.empty kOut 69 none
        replace HM := HM.front 4 rfl rfl
        replace HM := HM.front 4 rfl rfl
        replace HM := HM.front 4 rfl rfl
        replace HM := HM.front 4 rfl rfl
        refine run_loop (fun k_ ρ_ w_ => ∃ a1911 : Int, ∃ v1912 : Value, ∃ a1913 : List Out, ∃ a1915 : Int, spec_l3Draw.l1 x0 k_ a1911 a1913 a1915 = some o1875 ∧ ρ_ = [(0, .pointer (some ⟨b0, 0, none⟩)), (2, .pointer (some ⟨b1440, 0, none⟩)), (3, .pointer (some ⟨b1455, 0, none⟩)), (6, .int .i64 a1915)] ∧ Mem w X w_ [box b0 150 [p0_0, .int .i64 a1911], box b1440 28 [.int .i64 0, .int .i64 0, .slice none 0 0, .slice none 0 0], box b1455 28 [.int .i64 t1447.1, .int .i64 a1481, v1631, v1912], own kRef 36 v1631 a1632, own kOut 69 v1912 a1913]) k (ρ1 := [(0, .pointer (some ⟨b0, 0, none⟩)), (2, .pointer (some ⟨b1440, 0, none⟩)), (3, .pointer (some ⟨b1455, 0, none⟩)), (6, .int .i64 (wrap64 (1 + t1877.1)))]) ⟨_, _, _, _, ho1876, rfl, HM⟩ (Sub.cons rfl (Sub.cons rfl (Sub.cons rfl (Sub.cons rfl Sub.nil)))) ?_
        clear HM ho1876
        rintro k1942 _ w1943 ⟨a1911, v1912, a1913, a1915, ho1876, rfl, HM⟩
        obtain _ | k1942 := k1942
        · exact nomatch ((spec_l3Draw.l1_z x0 a1911 a1913 a1915).symm.trans ho1876)
        replace ho1876 := (spec_l3Draw.l1_s x0 k1942 a1911 a1913 a1915).symm.trans ho1876
        refine run_seq ?_
        refine run_seq ?_
        refine run_region rfl ?_
        refine ox rfl rfl rfl rfl (ex_move rfl rfl) ?_
        refine ox rfl rfl rfl rfl (ex_gtr rfl rfl rfl) ?_
        refine ops_nil (at_then ?_)
        refine run_cond (b := (decide (0 < a1915))) rfl (fun hb1944 => ?_) (fun hb1944 => ?_)
        · replace ho1876 := cond_t hb1944 ho1876
          refine run_skip ?_
          refine at_then ?_
          refine run_seq ?_
          refine run_block ?_
          obtain ⟨t1945, h1946, ho1876⟩ := bind_some ho1876
          obtain ⟨t1953, h1954, ho1876⟩ := bind_some ho1876
          obtain ⟨e1966, ho1876⟩ := chk_some ho1876
          refine run_meet (fun ρ_ w_ => ∃ v1967 : Value, ρ_ = [(0, .pointer (some ⟨b0, 0, none⟩)), (2, .pointer (some ⟨b1440, 0, none⟩)), (3, .pointer (some ⟨b1455, 0, none⟩)), (6, .int .i64 a1915)] ∧ Mem w X w_ [box b0 150 [p0_0, .int .i64 t1953.2], box b1440 28 [.int .i64 0, .int .i64 0, .slice none 0 0, .slice none 0 0], box b1455 28 [.int .i64 t1447.1, .int .i64 a1481, v1631, v1967], own kRef 36 v1631 a1632, own kOut 69 v1967 (a1913 ++ ([(⟨wrap64 (100 + t1945.1), (⟨t1953.1.fKeys, t1953.1.fNeed, t1953.1.fAfter⟩ : Rule)⟩ : Out)] : List Out))]) ?_ ?_
          · skip
            replace HM := HM.front 4 rfl rfl
            replace HM := HM.front 3 rfl rfl
            replace HM := HM.front 2 rfl rfl
            refine run_draw (fun w_ => Mem w X w_ [box b1440 28 [.int .i64 0, .int .i64 0, .slice none 0 0, .slice none 0 0], own kRef 36 v1631 a1632]) mixed rfl (l := #[false, false, false, false, false, false, false, false, false, false, false, false]) rfl ?_
            replace HM := HM.grow (fr_drew _)
            have hS := Mem.suf (M := [box b0 150 [p0_0, .int .i64 a1911], box b1455 28 [.int .i64 t1447.1, .int .i64 a1481, v1631, v1912], own kOut 69 v1912 a1913]) HM
            refine drw_cut1 (l' := #[true, true, true, true, true, true, true, true, true, false, false, false]) (f' := 3) (fun (v1963 : Value) => [(0, .pointer (some ⟨b0, 0, none⟩)), (2, .pointer (some ⟨b1440, 0, none⟩)), (3, .pointer (some ⟨b1455, 0, none⟩)), (6, .int .i64 a1915), (50, v1912), (57, v1963)]) (fun (v1963 : Value) => fun w_ => Mem w X w_ [own kOut 69 v1963 ([(⟨wrap64 (100 + t1945.1), (⟨t1953.1.fKeys, t1953.1.fNeed, t1953.1.fAfter⟩ : Rule)⟩ : Out)] : List Out), box b0 150 [p0_0, .int .i64 t1953.2], box b1455 28 [.int .i64 t1447.1, .int .i64 a1481, v1631, v1912], own kOut 69 v1912 a1913, box b1440 28 [.int .i64 0, .int .i64 0, .slice none 0 0, .slice none 0 0], own kRef 36 v1631 a1632]) ?_ (fun K1977 => ?_)
            · rintro v1963 w1978 HM
              replace HM : Mem w X w1978 [own kOut 69 v1963 ([(⟨wrap64 (100 + t1945.1), (⟨t1953.1.fKeys, t1953.1.fNeed, t1953.1.fAfter⟩ : Rule)⟩ : Out)] : List Out), box b0 150 [p0_0, .int .i64 t1953.2], box b1455 28 [.int .i64 t1447.1, .int .i64 a1481, v1631, v1912], own kOut 69 v1912 a1913, box b1440 28 [.int .i64 0, .int .i64 0, .slice none 0 0, .slice none 0 0], own kRef 36 v1631 a1632] := HM
              have hS := Mem.suf (M := [own kOut 69 v1963 ([(⟨wrap64 (100 + t1945.1), (⟨t1953.1.fKeys, t1953.1.fNeed, t1953.1.fAfter⟩ : Rule)⟩ : Out)] : List Out), box b0 150 [p0_0, .int .i64 t1953.2], box b1455 28 [.int .i64 t1447.1, .int .i64 a1481, v1631, v1912], own kOut 69 v1912 a1913]) HM
              replace HM := HM.front 3 rfl rfl
              refine drw_any [9] (by kernel_rfl) rfl (.cons ?_ .nil)
              refine br_does (l' := #[true, true, true, true, true, true, true, true, true, true, false, false]) rfl (guard_none rfl) rfl rfl (by kernel_rfl) (does_append kOut rfl rfl rfl Try.underlying26 tsz69 rfl tby69 tz69 rfl rfl (leB_le e1966) HM) ?_
              rintro v1967 w1979 HM
              have hS := Mem.suf (M := [own kOut 69 v1967 (a1913 ++ ([(⟨wrap64 (100 + t1945.1), (⟨t1953.1.fKeys, t1953.1.fNeed, t1953.1.fAfter⟩ : Rule)⟩ : Out)] : List Out)), box b0 150 [p0_0, .int .i64 t1953.2], box b1455 28 [.int .i64 t1447.1, .int .i64 a1481, v1631, v1912]]) HM
              refine ⟨hS, ?_⟩
              refine dt 10 #[true, true, true, true, true, true, true, true, true, true, true, false] rfl rfl rfl rfl (by kernel_rfl) (ex_fieldAddr (off' := 3) rfl rfl Try.underlying28 rfl tsz26 rfl) hS ?_
              replace HM := HM.front 2 rfl rfl
              refine drw_any [11] (by kernel_rfl) rfl (.cons ?_ .nil)
              refine br_doesS (l' := #[true, true, true, true, true, true, true, true, true, true, true, true]) rfl (guard_none rfl) rfl (by kernel_rfl) (does_store (vs := [v1967]) (cs' := [.int .i64 t1447.1, .int .i64 a1481, v1631, v1967]) rfl rfl rfl (rd_cells (HM.own_rd 1 rfl)) tsz26 (Ones.rd (HM.own_rd 1 rfl) Ones.nil) rfl rfl HM) ?_
              rintro w1980 HM
              have hS := Mem.suf (M := [box b1455 28 [.int .i64 t1447.1, .int .i64 a1481, v1631, v1967], own kOut 69 v1967 (a1913 ++ ([(⟨wrap64 (100 + t1945.1), (⟨t1953.1.fKeys, t1953.1.fNeed, t1953.1.fAfter⟩ : Rule)⟩ : Out)] : List Out)), box b0 150 [p0_0, .int .i64 t1953.2]]) HM
              refine ⟨hS, ?_⟩
              refine drw_done (by kernel_rfl) ?_
              replace HM := HM.front 1 rfl rfl
              replace HM := HM.front 4 rfl rfl
              replace HM := HM.front 2 rfl rfl
              replace HM := HM.front 4 rfl rfl
              replace HM := HM.front 4 rfl rfl
              exact at_meet [(0, .pointer (some ⟨b0, 0, none⟩)), (2, .pointer (some ⟨b1440, 0, none⟩)), (3, .pointer (some ⟨b1455, 0, none⟩)), (6, .int .i64 a1915)] ⟨_, rfl, HM⟩ (Sub.cons rfl (Sub.cons rfl (Sub.cons rfl (Sub.cons rfl Sub.nil))))
            refine drw_cut1 (l' := #[true, true, true, true, true, true, true, true, false, false, false, false]) (f' := 4) (fun (u1955 : Value) => [(0, .pointer (some ⟨b0, 0, none⟩)), (2, .pointer (some ⟨b1440, 0, none⟩)), (3, .pointer (some ⟨b1455, 0, none⟩)), (6, .int .i64 a1915), (50, v1912), (56, .agg #[(.int .i64 (wrap64 (100 + t1945.1))), u1955, (.int .i64 t1953.1.fNeed), (.int .i64 t1953.1.fAfter)])]) (fun (u1955 : Value) => fun w_ => Mem w X w_ [own kInt 2 u1955 t1953.1.fKeys, box b0 150 [p0_0, .int .i64 t1953.2], box b1455 28 [.int .i64 t1447.1, .int .i64 a1481, v1631, v1912], own kOut 69 v1912 a1913, box b1440 28 [.int .i64 0, .int .i64 0, .slice none 0 0, .slice none 0 0], own kRef 36 v1631 a1632]) ?_ (fun K1981 => ?_)
            · rintro u1955 w1982 HM
              replace HM : Mem w X w1982 [own kInt 2 u1955 t1953.1.fKeys, box b0 150 [p0_0, .int .i64 t1953.2], box b1455 28 [.int .i64 t1447.1, .int .i64 a1481, v1631, v1912], own kOut 69 v1912 a1913, box b1440 28 [.int .i64 0, .int .i64 0, .slice none 0 0, .slice none 0 0], own kRef 36 v1631 a1632] := HM
              have hS := Mem.suf (M := [own kInt 2 u1955 t1953.1.fKeys, box b0 150 [p0_0, .int .i64 t1953.2], box b1455 28 [.int .i64 t1447.1, .int .i64 a1481, v1631, v1912], own kOut 69 v1912 a1913]) HM
              refine drw_any [8] (by kernel_rfl) rfl (.cons ?_ .nil)
              refine br_does (l' := #[true, true, true, true, true, true, true, true, true, false, false, false]) rfl (guard_none rfl) rfl rfl (by kernel_rfl) (does_lit (e := 69) (cs := [(.int .i64 (wrap64 (100 + t1945.1))), u1955, (.int .i64 t1953.1.fNeed), (.int .i64 t1953.1.fAfter)]) (xs := ([(⟨wrap64 (100 + t1945.1), (⟨t1953.1.fKeys, t1953.1.fNeed, t1953.1.fAfter⟩ : Rule)⟩ : Out)] : List Out)) kOut rfl rfl (fun _ => by kernel_rfl) rfl rfl (fun _ _ h => by have := Elems.cons (d := kOut) (x := (⟨wrap64 (100 + t1945.1), (⟨t1953.1.fKeys, t1953.1.fNeed, t1953.1.fAfter⟩ : Rule)⟩ : Out)) ⟨_, rfl, h⟩ .nil; rw [List.append_nil, List.append_nil] at this; exact this) HM) ?_
              rintro v1963 w1983 HM
              have hS := Mem.suf (M := [own kOut 69 v1963 ([(⟨wrap64 (100 + t1945.1), (⟨t1953.1.fKeys, t1953.1.fNeed, t1953.1.fAfter⟩ : Rule)⟩ : Out)] : List Out), box b0 150 [p0_0, .int .i64 t1953.2], box b1455 28 [.int .i64 t1447.1, .int .i64 a1481, v1631, v1912], own kOut 69 v1912 a1913]) HM
              refine ⟨hS, ?_⟩
              exact drw_sub (K1977 v1963 _ HM) (Sub.cons rfl (Sub.cons rfl (Sub.cons rfl (Sub.cons rfl (Sub.cons rfl (Sub.cons rfl Sub.nil))))))
            refine drw_cut0 (l' := #[true, true, true, true, true, true, false, false, false, false, false, false]) (f' := 6) ([(0, .pointer (some ⟨b0, 0, none⟩)), (2, .pointer (some ⟨b1440, 0, none⟩)), (3, .pointer (some ⟨b1455, 0, none⟩)), (6, .int .i64 a1915), (54, .pointer (some ⟨b0, 0, none⟩)), (50, v1912), (53, .int .i64 (wrap64 (100 + t1945.1)))]) (fun w_ => Mem w X w_ [box b0 150 [p0_0, .int .i64 t1945.2], box b1455 28 [.int .i64 t1447.1, .int .i64 a1481, v1631, v1912], own kOut 69 v1912 a1913, box b1440 28 [.int .i64 0, .int .i64 0, .slice none 0 0, .slice none 0 0], own kRef 36 v1631 a1632]) ?_ (fun K1984 => ?_)
            · rintro w1985 HM
              replace HM : Mem w X w1985 [box b0 150 [p0_0, .int .i64 t1945.2], box b1455 28 [.int .i64 t1447.1, .int .i64 a1481, v1631, v1912], own kOut 69 v1912 a1913, box b1440 28 [.int .i64 0, .int .i64 0, .slice none 0 0, .slice none 0 0], own kRef 36 v1631 a1632] := HM
              have hS := Mem.suf (M := [box b0 150 [p0_0, .int .i64 t1945.2], box b1455 28 [.int .i64 t1447.1, .int .i64 a1481, v1631, v1912], own kOut 69 v1912 a1913]) HM
              obtain ⟨F1957, hF1958, hFn1959, hFl1960, HMh1961, hcl1962⟩ := HM.hide (Ms := [box b0 150 [p0_0, .int .i64 t1945.2]])
              refine drw_any [6] (by kernel_rfl) rfl (.cons ?_ .nil)
              refine br_does (l' := #[true, true, true, true, true, true, true, false, false, false, false, false]) rfl (guard_none rfl) rfl rfl (by kernel_rfl) (does_callk rfl callok105 rfl (spec_l2Draw.calls (x0 := (⟨x0.fCode, t1945.2⟩ : l1Src)) (hide_olds _ _) hF1958 hFn1959 hFl1960 (HMh1961.rdo hwo hp0_0) h1954)) ?_
              rintro _ w1986 ⟨u1955, rfl, hn⟩
              replace HM : Mem w X w1986 [own kInt 2 u1955 t1953.1.fKeys, box b0 150 [p0_0, .int .i64 t1953.2], box b1455 28 [.int .i64 t1447.1, .int .i64 a1481, v1631, v1912], own kOut 69 v1912 a1913, box b1440 28 [.int .i64 0, .int .i64 0, .slice none 0 0, .slice none 0 0], own kRef 36 v1631 a1632] := hcl1962 _ _ hn
              have hS := Mem.suf (M := [own kInt 2 u1955 t1953.1.fKeys, box b0 150 [p0_0, .int .i64 t1953.2], box b1455 28 [.int .i64 t1447.1, .int .i64 a1481, v1631, v1912], own kOut 69 v1912 a1913]) HM
              refine ⟨hS, ?_⟩
              refine dt 7 #[true, true, true, true, true, true, true, true, false, false, false, false] rfl rfl rfl rfl (by kernel_rfl) (ex_build1 (fun u1955 => [(0, .int .i64 (wrap64 (100 + t1945.1))), (1, .agg #[u1955, (.int .i64 t1953.1.fNeed), (.int .i64 t1953.1.fAfter)])]) (fun u1955 => #[.int .i64 (wrap64 (100 + t1945.1)), u1955, .int .i64 t1953.1.fNeed, .int .i64 t1953.1.fAfter]) rfl rfl (fun _ _ _ => by kernel_rfl) (HM.own_rd 0 rfl).isSl) hS ?_
              exact drw_sub (K1981 u1955 _ HM) (Sub.cons rfl (Sub.cons rfl (Sub.cons rfl (Sub.cons rfl (Sub.cons rfl (Sub.cons rfl Sub.nil))))))
            refine dt 0 #[true, false, false, false, false, false, false, false, false, false, false, false] rfl rfl rfl rfl (by kernel_rfl) (ex_fieldAddr (off' := 3) rfl rfl Try.underlying28 rfl tsz26 rfl) hS ?_
            refine dt 2 #[true, false, true, false, false, false, false, false, false, false, false, false] rfl rfl rfl rfl (by kernel_rfl) (ex_move rfl rfl) hS ?_
            refine dt 5 #[true, false, true, false, false, true, false, false, false, false, false, false] rfl rfl rfl rfl (by kernel_rfl) (ex_move rfl rfl) hS ?_
            refine drw_any [1, 3] (by kernel_rfl) rfl (.cons ?_ (.cons ?_ .nil))
            · skip
              refine br_does (l' := #[true, true, true, false, false, true, false, false, false, false, false, false]) rfl (guard_none rfl) rfl rfl (by kernel_rfl) (does_ex' (ex_load1 rfl rfl Try.underlying26 rfl ((HM.box_at 1 rfl) 3 _ rfl))) ?_
              rintro _ _ ⟨rfl, rfl⟩
              refine ⟨hS, ?_⟩
              obtain ⟨F1947, hF1948, hFn1949, hFl1950, HMh1951, hcl1952⟩ := HM.hide (Ms := [box b0 150 [p0_0, .int .i64 a1911]])
              refine drw_any [3] (by kernel_rfl) rfl (.cons ?_ .nil)
              refine br_does (l' := #[true, true, true, true, false, true, false, false, false, false, false, false]) rfl (guard_none rfl) rfl rfl (by kernel_rfl) (does_callk rfl callok52 rfl (spec_l1Next.calls (x0 := (⟨x0.fCode, a1911⟩ : l1Src)) (x1 := 99) (hide_olds _ _) hF1948 hFn1949 hFl1950 (HMh1951.rdo hwo hp0_0) h1946)) ?_
              rintro _ w1987 ⟨rfl, hn⟩
              replace HM : Mem w X w1987 [box b0 150 [p0_0, .int .i64 t1945.2], box b1455 28 [.int .i64 t1447.1, .int .i64 a1481, v1631, v1912], own kOut 69 v1912 a1913, box b1440 28 [.int .i64 0, .int .i64 0, .slice none 0 0, .slice none 0 0], own kRef 36 v1631 a1632] := hcl1952 _ _ hn
              have hS := Mem.suf (M := [box b0 150 [p0_0, .int .i64 t1945.2], box b1455 28 [.int .i64 t1447.1, .int .i64 a1481, v1631, v1912], own kOut 69 v1912 a1913]) HM
              refine ⟨hS, ?_⟩
              refine dt 4 #[true, true, true, true, true, true, false, false, false, false, false, false] rfl rfl rfl rfl (by kernel_rfl) (ex_add rfl rfl rfl) hS ?_
              exact drw_sub (K1984 _ HM) (Sub.cons rfl (Sub.cons rfl (Sub.cons rfl (Sub.cons rfl (Sub.cons rfl (Sub.cons rfl (Sub.cons rfl Sub.nil)))))))
            · skip
              obtain ⟨F1947, hF1948, hFn1949, hFl1950, HMh1951, hcl1952⟩ := HM.hide (Ms := [box b0 150 [p0_0, .int .i64 a1911]])
              refine br_does (l' := #[true, false, true, true, false, true, false, false, false, false, false, false]) rfl (guard_none rfl) rfl rfl (by kernel_rfl) (does_callk rfl callok52 rfl (spec_l1Next.calls (x0 := (⟨x0.fCode, a1911⟩ : l1Src)) (x1 := 99) (hide_olds _ _) hF1948 hFn1949 hFl1950 (HMh1951.rdo hwo hp0_0) h1946)) ?_
              rintro _ w1988 ⟨rfl, hn⟩
              replace HM : Mem w X w1988 [box b0 150 [p0_0, .int .i64 t1945.2], box b1455 28 [.int .i64 t1447.1, .int .i64 a1481, v1631, v1912], own kOut 69 v1912 a1913, box b1440 28 [.int .i64 0, .int .i64 0, .slice none 0 0, .slice none 0 0], own kRef 36 v1631 a1632] := hcl1952 _ _ hn
              have hS := Mem.suf (M := [box b0 150 [p0_0, .int .i64 t1945.2], box b1455 28 [.int .i64 t1447.1, .int .i64 a1481, v1631, v1912], own kOut 69 v1912 a1913]) HM
              refine ⟨hS, ?_⟩
              refine dt 4 #[true, false, true, true, true, true, false, false, false, false, false, false] rfl rfl rfl rfl (by kernel_rfl) (ex_add rfl rfl rfl) hS ?_
              refine drw_any [1, 6] (by kernel_rfl) rfl (.cons ?_ (.cons ?_ .nil))
              · skip
                refine br_does (l' := #[true, true, true, true, true, true, false, false, false, false, false, false]) rfl (guard_none rfl) rfl rfl (by kernel_rfl) (does_ex' (ex_load1 rfl rfl Try.underlying26 rfl ((HM.box_at 1 rfl) 3 _ rfl))) ?_
                rintro _ _ ⟨rfl, rfl⟩
                refine ⟨hS, ?_⟩
                exact drw_sub (K1984 _ HM) (Sub.cons rfl (Sub.cons rfl (Sub.cons rfl (Sub.cons rfl (Sub.cons rfl (Sub.cons rfl (Sub.cons rfl Sub.nil)))))))
              · skip
                obtain ⟨F1957, hF1958, hFn1959, hFl1960, HMh1961, hcl1962⟩ := HM.hide (Ms := [box b0 150 [p0_0, .int .i64 t1945.2]])
                refine br_does (l' := #[true, false, true, true, true, true, true, false, false, false, false, false]) rfl (guard_none rfl) rfl rfl (by kernel_rfl) (does_callk rfl callok105 rfl (spec_l2Draw.calls (x0 := (⟨x0.fCode, t1945.2⟩ : l1Src)) (hide_olds _ _) hF1958 hFn1959 hFl1960 (HMh1961.rdo hwo hp0_0) h1954)) ?_
                rintro _ w1989 ⟨u1955, rfl, hn⟩
                replace HM : Mem w X w1989 [own kInt 2 u1955 t1953.1.fKeys, box b0 150 [p0_0, .int .i64 t1953.2], box b1455 28 [.int .i64 t1447.1, .int .i64 a1481, v1631, v1912], own kOut 69 v1912 a1913, box b1440 28 [.int .i64 0, .int .i64 0, .slice none 0 0, .slice none 0 0], own kRef 36 v1631 a1632] := hcl1962 _ _ hn
                have hS := Mem.suf (M := [own kInt 2 u1955 t1953.1.fKeys, box b0 150 [p0_0, .int .i64 t1953.2], box b1455 28 [.int .i64 t1447.1, .int .i64 a1481, v1631, v1912], own kOut 69 v1912 a1913]) HM
                refine ⟨hS, ?_⟩
                refine dt 7 #[true, false, true, true, true, true, true, true, false, false, false, false] rfl rfl rfl rfl (by kernel_rfl) (ex_build1 (fun u1955 => [(0, .int .i64 (wrap64 (100 + t1945.1))), (1, .agg #[u1955, (.int .i64 t1953.1.fNeed), (.int .i64 t1953.1.fAfter)])]) (fun u1955 => #[.int .i64 (wrap64 (100 + t1945.1)), u1955, .int .i64 t1953.1.fNeed, .int .i64 t1953.1.fAfter]) rfl rfl (fun _ _ _ => by kernel_rfl) (HM.own_rd 0 rfl).isSl) hS ?_
                refine drw_any [1, 8] (by kernel_rfl) rfl (.cons ?_ (.cons ?_ .nil))
                · skip
                  refine br_does (l' := #[true, true, true, true, true, true, true, true, false, false, false, false]) rfl (guard_none rfl) rfl rfl (by kernel_rfl) (does_ex' (ex_load1 rfl rfl Try.underlying26 rfl ((HM.box_at 2 rfl) 3 _ rfl))) ?_
                  rintro _ _ ⟨rfl, rfl⟩
                  refine ⟨hS, ?_⟩
                  exact drw_sub (K1981 u1955 _ HM) (Sub.cons rfl (Sub.cons rfl (Sub.cons rfl (Sub.cons rfl (Sub.cons rfl (Sub.cons rfl Sub.nil))))))
                · skip
                  refine br_does (l' := #[true, false, true, true, true, true, true, true, true, false, false, false]) rfl (guard_none rfl) rfl rfl (by kernel_rfl) (does_lit (e := 69) (cs := [(.int .i64 (wrap64 (100 + t1945.1))), u1955, (.int .i64 t1953.1.fNeed), (.int .i64 t1953.1.fAfter)]) (xs := ([(⟨wrap64 (100 + t1945.1), (⟨t1953.1.fKeys, t1953.1.fNeed, t1953.1.fAfter⟩ : Rule)⟩ : Out)] : List Out)) kOut rfl rfl (fun _ => by kernel_rfl) rfl rfl (fun _ _ h => by have := Elems.cons (d := kOut) (x := (⟨wrap64 (100 + t1945.1), (⟨t1953.1.fKeys, t1953.1.fNeed, t1953.1.fAfter⟩ : Rule)⟩ : Out)) ⟨_, rfl, h⟩ .nil; rw [List.append_nil, List.append_nil] at this; exact this) HM) ?_
                  rintro v1963 w1990 HM
                  have hS := Mem.suf (M := [own kOut 69 v1963 ([(⟨wrap64 (100 + t1945.1), (⟨t1953.1.fKeys, t1953.1.fNeed, t1953.1.fAfter⟩ : Rule)⟩ : Out)] : List Out), box b0 150 [p0_0, .int .i64 t1953.2], box b1455 28 [.int .i64 t1447.1, .int .i64 a1481, v1631, v1912], own kOut 69 v1912 a1913]) HM
                  refine ⟨hS, ?_⟩
                  refine drw_any [1] (by kernel_rfl) rfl (.cons ?_ .nil)
                  refine br_does (l' := #[true, true, true, true, true, true, true, true, true, false, false, false]) rfl (guard_none rfl) rfl rfl (by kernel_rfl) (does_ex' (ex_load1 rfl rfl Try.underlying26 rfl ((HM.box_at 2 rfl) 3 _ rfl))) ?_
                  rintro _ _ ⟨rfl, rfl⟩
                  refine ⟨hS, ?_⟩
                  exact drw_sub (K1977 v1963 _ HM) (Sub.cons rfl (Sub.cons rfl (Sub.cons rfl (Sub.cons rfl (Sub.cons rfl (Sub.cons rfl Sub.nil))))))
          · rintro _ w1991 ⟨v1967, rfl, HM⟩
            refine at_block ?_
            refine at_then ?_
            refine run_region rfl ?_
            refine ox rfl rfl rfl rfl (ex_move rfl rfl) ?_
            refine ox rfl rfl rfl rfl (ex_sub rfl rfl rfl) ?_
            refine ox rfl rfl rfl rfl (ex_assign rfl rfl) ?_
            refine ops_nil ?_
            exact at_again k1942 (ρ1 := [(0, .pointer (some ⟨b0, 0, none⟩)), (2, .pointer (some ⟨b1440, 0, none⟩)), (3, .pointer (some ⟨b1455, 0, none⟩)), (6, .int .i64 (wrap64 (a1915 - 1)))]) (Nat.lt_succ_self _) ⟨_, _, _, _, ho1876, rfl, HM⟩ (Sub.cons rfl (Sub.cons rfl (Sub.cons rfl (Sub.cons rfl Sub.nil))))
        · replace ho1876 := cond_f hb1944 ho1876
          refine run_exit ?_
          refine at_then_exit ?_
          refine at_then_exit ?_
          refine at_block_exit ?_
          exact at_mid (ρ' := [(2, .pointer (some ⟨b1440, 0, none⟩)), (3, .pointer (some ⟨b1455, 0, none⟩))]) ⟨_, _, _, (Option.some.inj ho1876), rfl, HM⟩ (Sub.cons rfl (Sub.cons rfl Sub.nil))
      · rintro _ w1992 ⟨a1871, v1872, a1873, rfl, rfl, HM⟩
        replace H := cur2_mk H
        refine run_seq ?_
        refine run_region rfl ?_
        refine ox rfl rfl rfl rfl (ex_loadN (cs := [(.int .i64 t1447.1), (.int .i64 a1481), v1631, v1872]) rfl rfl Try.underlying28 rfl tsz28 rfl ((HM.box_at 2 rfl).sub 0 4 rfl)) ?_
        replace HM := HM.front 1 rfl rfl
        refine odS rfl rfl rfl (does_store (vs := [.int .i64 t1447.1, .int .i64 a1481, v1631, v1872]) (cs' := [.int .i64 t1447.1, .int .i64 a1481, v1631, v1872]) rfl rfl rfl rfl tsz28 (Ones.int (Ones.int (Ones.rd (HM.own_rd 3 rfl) (Ones.rd (HM.own_rd 4 rfl) Ones.nil)))) rfl rfl HM) ?_
        rintro w1993 HM
        refine ops_nil (at_then ?_)
        refine run_ret ?_
        replace HM := (HM.front 2 rfl rfl).drop
        replace HM := HM.front 1 rfl rfl
        replace HM := HM.front 3 rfl rfl
        replace HM := HM.front 3 rfl rfl
        replace HM := HM.front 3 rfl rfl
        have hcb0 := HM.box_at 0 rfl
        replace HM := (HM.front 0 rfl rfl).drop
        have hR := Option.some.inj H
        subst hR
        exact at_retN rfl rfl Try.underlying28 rfl tsz28 rfl hcb0 ⟨_, rfl, _, _, rfl, HM⟩

def spec_l1Chance.f (k : Nat) (x0 : l1Src) (x1 : Int) : Option (Bool × Int) := ((spec_l1Next.f k x0 x1).bind fun t2018 => some ((t2018.1 == 0), t2018.2))
theorem spec_l1Chance.calls {k : Nat} {x0 : l1Src} {x1 : Int} {b0 : Nat} {p0_0 : Value} {w wo : World} {X : List Nat} (hwo : Olds wo w X) (hX : Hold w [box b0 150 [p0_0, .int .i64 x0.fAt]] X) (hXn : X.Nodup) (hXl : ∀ b ∈ X, b < w.heap.size) (hp0_0 : RdS kU8 wo p0_0 x0.fCode) {r : Bool × Int} (H : spec_l1Chance.f k x0 x1 = some r) :
    Calls Try.prog 50 ([.pointer (some ⟨b0, 0, none⟩), .int .i64 x1] : List Value).toArray w (fun e w_ => ∃ v, e = .returned v ∧ v = (.bool r.1) ∧ Mem w X w_ [box b0 150 [p0_0, .int .i64 r.2]]) := by
  have HM := Mem.startX hX hXn hXl
  refine calls_run (N := 9) Try.func50 rfl rfl rfl rfl ?_
  unfold spec_l1Chance.f at H
  refine run_seq ?_
  refine run_region rfl ?_
  refine ox rfl rfl rfl rfl (ex_assign rfl rfl) ?_
  refine ops_nil (at_then (run_seq ?_))
  obtain ⟨t2018, h2019, H⟩ := bind_some H
  refine run_region rfl ?_
  refine ox rfl rfl rfl rfl (ex_move rfl rfl) ?_
  refine ox rfl rfl rfl rfl (ex_move rfl rfl) ?_
  obtain ⟨F2020, hF2021, hFn2022, hFl2023, HMh2024, hcl2025⟩ := HM.hide (Ms := [box b0 150 [p0_0, .int .i64 x0.fAt]])
  refine od rfl rfl rfl rfl (does_callk rfl callok52 rfl (spec_l1Next.calls (x0 := x0) (x1 := x1) (hide_olds _ _) hF2021 hFn2022 hFl2023 (HMh2024.rdo hwo hp0_0) h2019)) ?_
  rintro _ w2026 ⟨rfl, hn⟩
  replace HM : Mem w X w2026 [box b0 150 [p0_0, .int .i64 t2018.2]] := hcl2025 _ _ hn
  refine ox rfl rfl rfl rfl (ex_eql rfl rfl rfl) ?_
  refine ox rfl rfl rfl rfl (ex_assign rfl rfl) ?_
  refine ops_nil (at_then ?_)
  refine run_ret ?_
  have hR := Option.some.inj H
  subst hR
  exact at_ret1 rfl rfl ⟨_, rfl, rfl, HM⟩

def spec_l2Bent.f (k : Nat) (x0 : l1Src) : Option (Rule × Int) := ((spec_l2Draw.f k x0).bind fun t2208 => ((spec_l1Next.f k (⟨x0.fCode, t2208.2⟩ : l1Src) 10).bind fun t2224 => (bif (t2224.1 == 0) then ((spec_l1Pick.f k (⟨x0.fCode, t2224.2⟩ : l1Src) ([0, 1, 1000] : List Int)).bind fun t2237 => (chk (leB ((t2208.1.fKeys.length + ([t2237.1] : List Int).length) * 8) 140737488355328) (some ((⟨t2208.1.fKeys ++ ([t2237.1] : List Int), t2208.1.fNeed, t2208.1.fAfter⟩ : Rule), t2237.2)))) else (bif (t2224.1 == 1) then ((spec_l1Pick.f k (⟨x0.fCode, t2224.2⟩ : l1Src) ([0, 4, 2] : List Int)).bind fun t2279 => some ((⟨t2208.1.fKeys, t2279.1, t2208.1.fAfter⟩ : Rule), t2279.2)) else (bif (t2224.1 == 2) then ((spec_l1Pick.f k (⟨x0.fCode, t2224.2⟩ : l1Src) ([(-1), 999, 1000] : List Int)).bind fun t2295 => some ((⟨t2208.1.fKeys, t2208.1.fNeed, t2295.1⟩ : Rule), t2295.2)) else (bif (t2224.1 == 3) then some ((⟨([] : List Int), t2208.1.fNeed, t2208.1.fAfter⟩ : Rule), t2224.2) else some ((⟨t2208.1.fKeys, t2208.1.fNeed, t2208.1.fAfter⟩ : Rule), t2224.2)))))))
theorem spec_l2Bent.calls {k : Nat} {x0 : l1Src} {b0 : Nat} {p0_0 : Value} {w wo : World} {X : List Nat} (hwo : Olds wo w X) (hX : Hold w [box b0 150 [p0_0, .int .i64 x0.fAt]] X) (hXn : X.Nodup) (hXl : ∀ b ∈ X, b < w.heap.size) (hp0_0 : RdS kU8 wo p0_0 x0.fCode) {r : Rule × Int} (H : spec_l2Bent.f k x0 = some r) :
    Calls Try.prog 76 ([.pointer (some ⟨b0, 0, none⟩)] : List Value).toArray w (fun e w_ => ∃ v, e = .returned v ∧ ∃ u0 : Value, v = (.agg #[u0, .int .i64 r.1.fNeed, .int .i64 r.1.fAfter]) ∧ Mem w X w_ [own kInt 2 u0 r.1.fKeys, box b0 150 [p0_0, .int .i64 r.2]]) := by
  have HM := Mem.startX hX hXn hXl
  refine calls_run (N := 34) Try.func76 rfl rfl rfl rfl ?_
  unfold spec_l2Bent.f at H
  refine run_seq ?_
  refine run_region rfl ?_
  refine od rfl rfl rfl rfl (does_alloc (cs := [.slice none 0 0, .int .i64 0, .int .i64 0]) rfl tz67 rfl HM) ?_
  rintro _ w2207 ⟨b2204, rfl, HM⟩
  refine ops_nil (at_then (run_seq ?_))
  obtain ⟨t2208, h2209, H⟩ := bind_some H
  refine run_region rfl ?_
  refine ox rfl rfl rfl rfl (ex_move rfl rfl) ?_
  replace HM := HM.front 1 rfl rfl
  obtain ⟨F2212, hF2213, hFn2214, hFl2215, HMh2216, hcl2217⟩ := HM.hide (Ms := [box b0 150 [p0_0, .int .i64 x0.fAt]])
  refine od rfl rfl rfl rfl (does_callk rfl callok105 rfl (spec_l2Draw.calls (x0 := x0) (hide_olds _ _) hF2213 hFn2214 hFl2215 (HMh2216.rdo hwo hp0_0) h2209)) ?_
  rintro _ w2221 ⟨u2210, rfl, hn⟩
  replace HM : Mem w X w2221 [own kInt 2 u2210 t2208.1.fKeys, box b0 150 [p0_0, .int .i64 t2208.2], box b2204 67 [.slice none 0 0, .int .i64 0, .int .i64 0]] := hcl2217 _ _ hn
  refine od rfl rfl rfl rfl (does_alloc (cs := [.slice none 0 0, .int .i64 0, .int .i64 0]) rfl tz67 rfl HM) ?_
  rintro _ w2222 ⟨b2218, rfl, HM⟩
  refine odS rfl rfl rfl (does_store (vs := [u2210, .int .i64 t2208.1.fNeed, .int .i64 t2208.1.fAfter]) (cs' := [u2210, .int .i64 t2208.1.fNeed, .int .i64 t2208.1.fAfter]) rfl rfl rfl rfl tsz67 (Ones.rd (HM.own_rd 1 rfl) (Ones.int (Ones.int Ones.nil))) rfl rfl HM) ?_
  rintro w2223 HM
  refine ops_nil (at_then (run_seq ?_))
  refine run_seq ?_
  obtain ⟨t2224, h2225, H⟩ := bind_some H
  refine run_region rfl ?_
  refine ox rfl rfl rfl rfl (ex_move rfl rfl) ?_
  replace HM := HM.front 2 rfl rfl
  obtain ⟨F2226, hF2227, hFn2228, hFl2229, HMh2230, hcl2231⟩ := HM.hide (Ms := [box b0 150 [p0_0, .int .i64 t2208.2]])
  refine od rfl rfl rfl rfl (does_callk rfl callok52 rfl (spec_l1Next.calls (x0 := (⟨x0.fCode, t2208.2⟩ : l1Src)) (x1 := 10) (hide_olds _ _) hF2227 hFn2228 hFl2229 (HMh2230.rdo hwo hp0_0) h2225)) ?_
  rintro _ w2232 ⟨rfl, hn⟩
  replace HM : Mem w X w2232 [box b0 150 [p0_0, .int .i64 t2224.2], box b2218 67 [u2210, .int .i64 t2208.1.fNeed, .int .i64 t2208.1.fAfter], own kInt 2 u2210 t2208.1.fKeys, box b2204 67 [.slice none 0 0, .int .i64 0, .int .i64 0]] := hcl2231 _ _ hn
  refine ops_nil (at_then ?_)
  refine run_block ?_
  refine run_seq ?_
  refine run_region rfl ?_
  refine ox rfl rfl rfl rfl (ex_eql rfl rfl rfl) ?_
  refine ox rfl rfl rfl rfl (ex_assign rfl rfl) ?_
  refine ops_nil (at_then ?_)
  refine run_cond (b := (t2224.1 == 0)) rfl (fun hb2233 => ?_) (fun hb2233 => ?_)
  · replace H := cond_t hb2233 H
    obtain ⟨t2237, h2238, H⟩ := bind_some H
    obtain ⟨e2248, H⟩ := chk_some H
    refine run_meet (fun ρ_ w_ => ∃ v2249 : Value, ρ_ = [(2, .pointer (some ⟨b2204, 0, none⟩)), (3, .pointer (some ⟨b2218, 0, none⟩))] ∧ Mem w X w_ [box b0 150 [p0_0, .int .i64 t2237.2], box b2204 67 [.slice none 0 0, .int .i64 0, .int .i64 0], box b2218 67 [v2249, .int .i64 t2208.1.fNeed, .int .i64 t2208.1.fAfter], own kInt 2 v2249 (t2208.1.fKeys ++ ([t2237.1] : List Int))]) ?_ ?_
    · skip
      replace HM := HM.front 2 rfl rfl
      replace HM := HM.front 2 rfl rfl
      replace HM := HM.front 2 rfl rfl
      refine run_draw (fun w_ => Mem w X w_ [box b2204 67 [.slice none 0 0, .int .i64 0, .int .i64 0]]) mixed rfl (l := #[false, false, false, false, false, false, false, false, false]) rfl ?_
      replace HM := HM.grow (fr_drew _)
      have hS := Mem.suf (M := [box b0 150 [p0_0, .int .i64 t2224.2], box b2218 67 [u2210, .int .i64 t2208.1.fNeed, .int .i64 t2208.1.fAfter], own kInt 2 u2210 t2208.1.fKeys]) HM
      refine drw_cut2 (l' := #[true, true, true, true, true, true, false, false, false]) (f' := 3) (fun (v2234 : Value) => fun (v2245 : Value) => [(2, .pointer (some ⟨b2204, 0, none⟩)), (3, .pointer (some ⟨b2218, 0, none⟩)), (11, u2210), (15, v2245)]) (fun (v2234 : Value) => fun (v2245 : Value) => fun w_ => Mem w X w_ [own kInt 2 v2245 ([t2237.1] : List Int), box b0 150 [p0_0, .int .i64 t2237.2], own kInt 2 v2234 ([0, 1, 1000] : List Int), box b2218 67 [u2210, .int .i64 t2208.1.fNeed, .int .i64 t2208.1.fAfter], own kInt 2 u2210 t2208.1.fKeys, box b2204 67 [.slice none 0 0, .int .i64 0, .int .i64 0]]) ?_ (fun K2259 => ?_)
      · rintro v2234 v2245 w2260 HM
        replace HM : Mem w X w2260 [own kInt 2 v2245 ([t2237.1] : List Int), box b0 150 [p0_0, .int .i64 t2237.2], own kInt 2 v2234 ([0, 1, 1000] : List Int), box b2218 67 [u2210, .int .i64 t2208.1.fNeed, .int .i64 t2208.1.fAfter], own kInt 2 u2210 t2208.1.fKeys, box b2204 67 [.slice none 0 0, .int .i64 0, .int .i64 0]] := HM
        have hS := Mem.suf (M := [own kInt 2 v2245 ([t2237.1] : List Int), box b0 150 [p0_0, .int .i64 t2237.2], own kInt 2 v2234 ([0, 1, 1000] : List Int), box b2218 67 [u2210, .int .i64 t2208.1.fNeed, .int .i64 t2208.1.fAfter], own kInt 2 u2210 t2208.1.fKeys]) HM
        replace HM := HM.front 4 rfl rfl
        refine drw_any [6] (by kernel_rfl) rfl (.cons ?_ .nil)
        refine br_does (l' := #[true, true, true, true, true, true, true, false, false]) rfl (guard_none rfl) rfl rfl (by kernel_rfl) (does_appendR kInt flat_plain rfl rfl rfl Try.underlying39 tsz2 rfl tby2 tz2 rfl rfl (leB_le e2248) (HM.own_rd 1 rfl) HM) ?_
        rintro v2249 w2261 HM
        have hS := Mem.suf (M := [own kInt 2 v2249 (t2208.1.fKeys ++ ([t2237.1] : List Int)), own kInt 2 v2245 ([t2237.1] : List Int), box b0 150 [p0_0, .int .i64 t2237.2], own kInt 2 v2234 ([0, 1, 1000] : List Int), box b2218 67 [u2210, .int .i64 t2208.1.fNeed, .int .i64 t2208.1.fAfter]]) HM
        refine ⟨hS, ?_⟩
        refine dt 7 #[true, true, true, true, true, true, true, true, false] rfl rfl rfl rfl (by kernel_rfl) (ex_fieldAddr (off' := 0) rfl rfl Try.underlying67 rfl tsz39 rfl) hS ?_
        replace HM := HM.front 4 rfl rfl
        refine drw_any [8] (by kernel_rfl) rfl (.cons ?_ .nil)
        refine br_doesS (l' := #[true, true, true, true, true, true, true, true, true]) rfl (guard_none rfl) rfl (by kernel_rfl) (does_store (vs := [v2249]) (cs' := [v2249, .int .i64 t2208.1.fNeed, .int .i64 t2208.1.fAfter]) rfl rfl rfl (rd_cells (HM.own_rd 1 rfl)) tsz39 (Ones.rd (HM.own_rd 1 rfl) Ones.nil) rfl rfl HM) ?_
        rintro w2262 HM
        have hS := Mem.suf (M := [box b2218 67 [v2249, .int .i64 t2208.1.fNeed, .int .i64 t2208.1.fAfter], own kInt 2 v2249 (t2208.1.fKeys ++ ([t2237.1] : List Int)), own kInt 2 v2245 ([t2237.1] : List Int), box b0 150 [p0_0, .int .i64 t2237.2], own kInt 2 v2234 ([0, 1, 1000] : List Int)]) HM
        refine ⟨hS, ?_⟩
        refine drw_done (by kernel_rfl) ?_
        replace HM := (HM.front 2 rfl rfl).drop
        replace HM := (HM.front 3 rfl rfl).drop
        replace HM := HM.front 1 rfl rfl
        replace HM := HM.front 1 rfl rfl
        replace HM := HM.front 3 rfl rfl
        replace HM := HM.front 3 rfl rfl
        exact at_meet [(2, .pointer (some ⟨b2204, 0, none⟩)), (3, .pointer (some ⟨b2218, 0, none⟩))] ⟨_, rfl, HM⟩ (Sub.cons rfl (Sub.cons rfl Sub.nil))
      refine drw_cut1 (l' := #[true, true, true, true, true, false, false, false, false]) (f' := 4) (fun (v2234 : Value) => [(2, .pointer (some ⟨b2204, 0, none⟩)), (3, .pointer (some ⟨b2218, 0, none⟩)), (11, u2210), (14, .int .i64 t2237.1)]) (fun (v2234 : Value) => fun w_ => Mem w X w_ [box b0 150 [p0_0, .int .i64 t2237.2], own kInt 2 v2234 ([0, 1, 1000] : List Int), box b2218 67 [u2210, .int .i64 t2208.1.fNeed, .int .i64 t2208.1.fAfter], own kInt 2 u2210 t2208.1.fKeys, box b2204 67 [.slice none 0 0, .int .i64 0, .int .i64 0]]) ?_ (fun K2263 => ?_)
      · rintro v2234 w2264 HM
        replace HM : Mem w X w2264 [box b0 150 [p0_0, .int .i64 t2237.2], own kInt 2 v2234 ([0, 1, 1000] : List Int), box b2218 67 [u2210, .int .i64 t2208.1.fNeed, .int .i64 t2208.1.fAfter], own kInt 2 u2210 t2208.1.fKeys, box b2204 67 [.slice none 0 0, .int .i64 0, .int .i64 0]] := HM
        have hS := Mem.suf (M := [box b0 150 [p0_0, .int .i64 t2237.2], own kInt 2 v2234 ([0, 1, 1000] : List Int), box b2218 67 [u2210, .int .i64 t2208.1.fNeed, .int .i64 t2208.1.fAfter], own kInt 2 u2210 t2208.1.fKeys]) HM
        refine drw_any [5] (by kernel_rfl) rfl (.cons ?_ .nil)
        refine br_does (l' := #[true, true, true, true, true, true, false, false, false]) rfl (guard_none rfl) rfl rfl (by kernel_rfl) (does_lit (e := 2) (cs := [.int .i64 t2237.1]) (xs := ([t2237.1] : List Int)) kInt rfl rfl (fun _ => by kernel_rfl) rfl rfl (fun _ _ h => by have h' : _ = [] := h; subst h'; exact (Elems.cons (d := kInt) (x := t2237.1) (f := []) ⟨rfl, rfl⟩ .nil)) HM.emp) ?_
        rintro v2245 w2265 HM
        have hS := Mem.suf (M := [own kInt 2 v2245 ([t2237.1] : List Int), box b0 150 [p0_0, .int .i64 t2237.2], own kInt 2 v2234 ([0, 1, 1000] : List Int), box b2218 67 [u2210, .int .i64 t2208.1.fNeed, .int .i64 t2208.1.fAfter], own kInt 2 u2210 t2208.1.fKeys]) HM
        refine ⟨hS, ?_⟩
        exact drw_sub (K2259 v2234 v2245 _ HM) (Sub.cons rfl (Sub.cons rfl (Sub.cons rfl (Sub.cons rfl Sub.nil))))
      refine drw_cut1 (l' := #[true, true, true, true, false, false, false, false, false]) (f' := 5) (fun (v2234 : Value) => [(2, .pointer (some ⟨b2204, 0, none⟩)), (3, .pointer (some ⟨b2218, 0, none⟩)), (12, .pointer (some ⟨b0, 0, none⟩)), (11, u2210), (13, v2234)]) (fun (v2234 : Value) => fun w_ => Mem w X w_ [own kInt 2 v2234 ([0, 1, 1000] : List Int), box b0 150 [p0_0, .int .i64 t2224.2], box b2218 67 [u2210, .int .i64 t2208.1.fNeed, .int .i64 t2208.1.fAfter], own kInt 2 u2210 t2208.1.fKeys, box b2204 67 [.slice none 0 0, .int .i64 0, .int .i64 0]]) ?_ (fun K2266 => ?_)
      · rintro v2234 w2267 HM
        replace HM : Mem w X w2267 [own kInt 2 v2234 ([0, 1, 1000] : List Int), box b0 150 [p0_0, .int .i64 t2224.2], box b2218 67 [u2210, .int .i64 t2208.1.fNeed, .int .i64 t2208.1.fAfter], own kInt 2 u2210 t2208.1.fKeys, box b2204 67 [.slice none 0 0, .int .i64 0, .int .i64 0]] := HM
        have hS := Mem.suf (M := [own kInt 2 v2234 ([0, 1, 1000] : List Int), box b0 150 [p0_0, .int .i64 t2224.2], box b2218 67 [u2210, .int .i64 t2208.1.fNeed, .int .i64 t2208.1.fAfter], own kInt 2 u2210 t2208.1.fKeys]) HM
        replace HM := HM.front 1 rfl rfl
        obtain ⟨F2239, hF2240, hFn2241, hFl2242, HMh2243, hcl2244⟩ := HM.hide (Ms := [box b0 150 [p0_0, .int .i64 t2224.2]])
        refine drw_any [4] (by kernel_rfl) rfl (.cons ?_ .nil)
        refine br_does (l' := #[true, true, true, true, true, false, false, false, false]) rfl (guard_none rfl) rfl rfl (by kernel_rfl) (does_callk rfl callok53 rfl (spec_l1Pick.calls (x0 := (⟨x0.fCode, t2224.2⟩ : l1Src)) (x1 := ([0, 1, 1000] : List Int)) (hide_olds _ _) hF2240 hFn2241 hFl2242 (HMh2243.rdo hwo hp0_0) (HMh2243.own_rd 0 rfl) h2238)) ?_
        rintro _ w2268 ⟨rfl, hn⟩
        replace HM : Mem w X w2268 [box b0 150 [p0_0, .int .i64 t2237.2], own kInt 2 v2234 ([0, 1, 1000] : List Int), box b2218 67 [u2210, .int .i64 t2208.1.fNeed, .int .i64 t2208.1.fAfter], own kInt 2 u2210 t2208.1.fKeys, box b2204 67 [.slice none 0 0, .int .i64 0, .int .i64 0]] := hcl2244 _ _ hn
        have hS := Mem.suf (M := [box b0 150 [p0_0, .int .i64 t2237.2], own kInt 2 v2234 ([0, 1, 1000] : List Int), box b2218 67 [u2210, .int .i64 t2208.1.fNeed, .int .i64 t2208.1.fAfter], own kInt 2 u2210 t2208.1.fKeys]) HM
        refine ⟨hS, ?_⟩
        exact drw_sub (K2263 v2234 _ HM) (Sub.cons rfl (Sub.cons rfl (Sub.cons rfl (Sub.cons rfl Sub.nil))))
      refine dt 0 #[true, false, false, false, false, false, false, false, false] rfl rfl rfl rfl (by kernel_rfl) (ex_fieldAddr (off' := 0) rfl rfl Try.underlying67 rfl tsz39 rfl) hS ?_
      refine dt 2 #[true, false, true, false, false, false, false, false, false] rfl rfl rfl rfl (by kernel_rfl) (ex_move rfl rfl) hS ?_
      refine drw_any [1, 3] (by kernel_rfl) rfl (.cons ?_ (.cons ?_ .nil))
      · skip
        refine br_does (l' := #[true, true, true, false, false, false, false, false, false]) rfl (guard_none rfl) rfl rfl (by kernel_rfl) (does_ex' (ex_load1 rfl rfl Try.underlying39 rfl ((HM.box_at 1 rfl) 0 _ rfl))) ?_
        rintro _ _ ⟨rfl, rfl⟩
        refine ⟨hS, ?_⟩
        refine drw_any [3] (by kernel_rfl) rfl (.cons ?_ .nil)
        refine br_does (l' := #[true, true, true, true, false, false, false, false, false]) rfl (guard_none rfl) rfl rfl (by kernel_rfl) (does_lit (e := 2) (cs := [.int .i64 0, .int .i64 1, .int .i64 1000]) (xs := ([0, 1, 1000] : List Int)) kInt rfl rfl (fun _ => by kernel_rfl) rfl rfl (fun _ _ h => by have h' : _ = [] := h; subst h'; exact (Elems.cons (d := kInt) (x := 0) (f := []) ⟨rfl, rfl⟩ (Elems.cons (d := kInt) (x := 1) (f := []) ⟨rfl, rfl⟩ (Elems.cons (d := kInt) (x := 1000) (f := []) ⟨rfl, rfl⟩ .nil)))) HM.emp) ?_
        rintro v2234 w2269 HM
        have hS := Mem.suf (M := [own kInt 2 v2234 ([0, 1, 1000] : List Int), box b0 150 [p0_0, .int .i64 t2224.2], box b2218 67 [u2210, .int .i64 t2208.1.fNeed, .int .i64 t2208.1.fAfter], own kInt 2 u2210 t2208.1.fKeys]) HM
        refine ⟨hS, ?_⟩
        exact drw_sub (K2266 v2234 _ HM) (Sub.cons rfl (Sub.cons rfl (Sub.cons rfl (Sub.cons rfl (Sub.cons rfl Sub.nil)))))
      · skip
        refine br_does (l' := #[true, false, true, true, false, false, false, false, false]) rfl (guard_none rfl) rfl rfl (by kernel_rfl) (does_lit (e := 2) (cs := [.int .i64 0, .int .i64 1, .int .i64 1000]) (xs := ([0, 1, 1000] : List Int)) kInt rfl rfl (fun _ => by kernel_rfl) rfl rfl (fun _ _ h => by have h' : _ = [] := h; subst h'; exact (Elems.cons (d := kInt) (x := 0) (f := []) ⟨rfl, rfl⟩ (Elems.cons (d := kInt) (x := 1) (f := []) ⟨rfl, rfl⟩ (Elems.cons (d := kInt) (x := 1000) (f := []) ⟨rfl, rfl⟩ .nil)))) HM.emp) ?_
        rintro v2234 w2270 HM
        have hS := Mem.suf (M := [own kInt 2 v2234 ([0, 1, 1000] : List Int), box b0 150 [p0_0, .int .i64 t2224.2], box b2218 67 [u2210, .int .i64 t2208.1.fNeed, .int .i64 t2208.1.fAfter], own kInt 2 u2210 t2208.1.fKeys]) HM
        refine ⟨hS, ?_⟩
        refine drw_any [1, 4] (by kernel_rfl) rfl (.cons ?_ (.cons ?_ .nil))
        · skip
          refine br_does (l' := #[true, true, true, true, false, false, false, false, false]) rfl (guard_none rfl) rfl rfl (by kernel_rfl) (does_ex' (ex_load1 rfl rfl Try.underlying39 rfl ((HM.box_at 2 rfl) 0 _ rfl))) ?_
          rintro _ _ ⟨rfl, rfl⟩
          refine ⟨hS, ?_⟩
          exact drw_sub (K2266 v2234 _ HM) (Sub.cons rfl (Sub.cons rfl (Sub.cons rfl (Sub.cons rfl (Sub.cons rfl Sub.nil)))))
        · skip
          replace HM := HM.front 1 rfl rfl
          obtain ⟨F2239, hF2240, hFn2241, hFl2242, HMh2243, hcl2244⟩ := HM.hide (Ms := [box b0 150 [p0_0, .int .i64 t2224.2]])
          refine br_does (l' := #[true, false, true, true, true, false, false, false, false]) rfl (guard_none rfl) rfl rfl (by kernel_rfl) (does_callk rfl callok53 rfl (spec_l1Pick.calls (x0 := (⟨x0.fCode, t2224.2⟩ : l1Src)) (x1 := ([0, 1, 1000] : List Int)) (hide_olds _ _) hF2240 hFn2241 hFl2242 (HMh2243.rdo hwo hp0_0) (HMh2243.own_rd 0 rfl) h2238)) ?_
          rintro _ w2271 ⟨rfl, hn⟩
          replace HM : Mem w X w2271 [box b0 150 [p0_0, .int .i64 t2237.2], own kInt 2 v2234 ([0, 1, 1000] : List Int), box b2218 67 [u2210, .int .i64 t2208.1.fNeed, .int .i64 t2208.1.fAfter], own kInt 2 u2210 t2208.1.fKeys, box b2204 67 [.slice none 0 0, .int .i64 0, .int .i64 0]] := hcl2244 _ _ hn
          have hS := Mem.suf (M := [box b0 150 [p0_0, .int .i64 t2237.2], own kInt 2 v2234 ([0, 1, 1000] : List Int), box b2218 67 [u2210, .int .i64 t2208.1.fNeed, .int .i64 t2208.1.fAfter], own kInt 2 u2210 t2208.1.fKeys]) HM
          refine ⟨hS, ?_⟩
          refine drw_any [1, 5] (by kernel_rfl) rfl (.cons ?_ (.cons ?_ .nil))
          · skip
            refine br_does (l' := #[true, true, true, true, true, false, false, false, false]) rfl (guard_none rfl) rfl rfl (by kernel_rfl) (does_ex' (ex_load1 rfl rfl Try.underlying39 rfl ((HM.box_at 2 rfl) 0 _ rfl))) ?_
            rintro _ _ ⟨rfl, rfl⟩
            refine ⟨hS, ?_⟩
            exact drw_sub (K2263 v2234 _ HM) (Sub.cons rfl (Sub.cons rfl (Sub.cons rfl (Sub.cons rfl Sub.nil))))
          · skip
            refine br_does (l' := #[true, false, true, true, true, true, false, false, false]) rfl (guard_none rfl) rfl rfl (by kernel_rfl) (does_lit (e := 2) (cs := [.int .i64 t2237.1]) (xs := ([t2237.1] : List Int)) kInt rfl rfl (fun _ => by kernel_rfl) rfl rfl (fun _ _ h => by have h' : _ = [] := h; subst h'; exact (Elems.cons (d := kInt) (x := t2237.1) (f := []) ⟨rfl, rfl⟩ .nil)) HM.emp) ?_
            rintro v2245 w2272 HM
            have hS := Mem.suf (M := [own kInt 2 v2245 ([t2237.1] : List Int), box b0 150 [p0_0, .int .i64 t2237.2], own kInt 2 v2234 ([0, 1, 1000] : List Int), box b2218 67 [u2210, .int .i64 t2208.1.fNeed, .int .i64 t2208.1.fAfter], own kInt 2 u2210 t2208.1.fKeys]) HM
            refine ⟨hS, ?_⟩
            refine drw_any [1] (by kernel_rfl) rfl (.cons ?_ .nil)
            refine br_does (l' := #[true, true, true, true, true, true, false, false, false]) rfl (guard_none rfl) rfl rfl (by kernel_rfl) (does_ex' (ex_load1 rfl rfl Try.underlying39 rfl ((HM.box_at 3 rfl) 0 _ rfl))) ?_
            rintro _ _ ⟨rfl, rfl⟩
            refine ⟨hS, ?_⟩
            exact drw_sub (K2259 v2234 v2245 _ HM) (Sub.cons rfl (Sub.cons rfl (Sub.cons rfl (Sub.cons rfl Sub.nil))))
    · rintro _ w2273 ⟨v2249, rfl, HM⟩
      refine at_block ?_
      refine at_then ?_
      refine run_seq ?_
      refine run_region rfl ?_
      refine ox rfl rfl rfl rfl (ex_loadN (cs := [v2249, (.int .i64 t2208.1.fNeed), (.int .i64 t2208.1.fAfter)]) rfl rfl Try.underlying67 rfl tsz67 rfl ((HM.box_at 2 rfl).sub 0 3 rfl)) ?_
      replace HM := HM.front 1 rfl rfl
      refine odS rfl rfl rfl (does_store (vs := [v2249, .int .i64 t2208.1.fNeed, .int .i64 t2208.1.fAfter]) (cs' := [v2249, .int .i64 t2208.1.fNeed, .int .i64 t2208.1.fAfter]) rfl rfl rfl rfl tsz67 (Ones.rd (HM.own_rd 3 rfl) (Ones.int (Ones.int Ones.nil))) rfl rfl HM) ?_
      rintro w2274 HM
      refine ops_nil (at_then ?_)
      refine run_ret ?_
      replace HM := (HM.front 2 rfl rfl).drop
      replace HM := HM.front 1 rfl rfl
      replace HM := HM.front 2 rfl rfl
      replace HM := HM.front 2 rfl rfl
      have hcb0 := HM.box_at 0 rfl
      replace HM := (HM.front 0 rfl rfl).drop
      have hR := Option.some.inj H
      subst hR
      exact at_retN rfl rfl Try.underlying67 rfl tsz67 rfl hcb0 ⟨_, rfl, _, rfl, HM⟩
  · replace H := cond_f hb2233 H
    refine run_seq ?_
    refine run_region rfl ?_
    refine ox rfl rfl rfl rfl (ex_eql rfl rfl rfl) ?_
    refine ox rfl rfl rfl rfl (ex_assign rfl rfl) ?_
    refine ops_nil (at_then ?_)
    refine run_cond (b := (t2224.1 == 1)) rfl (fun hb2275 => ?_) (fun hb2275 => ?_)
    · replace H := cond_t hb2275 H
      obtain ⟨t2279, h2280, H⟩ := bind_some H
      refine run_region rfl ?_
      refine ox rfl rfl rfl rfl (ex_move rfl rfl) ?_
      refine od rfl rfl rfl rfl (does_lit (e := 2) (cs := [.int .i64 0, .int .i64 4, .int .i64 2]) (xs := ([0, 4, 2] : List Int)) kInt rfl rfl (fun _ => by kernel_rfl) rfl rfl (fun _ _ h => by have h' : _ = [] := h; subst h'; exact (Elems.cons (d := kInt) (x := 0) (f := []) ⟨rfl, rfl⟩ (Elems.cons (d := kInt) (x := 4) (f := []) ⟨rfl, rfl⟩ (Elems.cons (d := kInt) (x := 2) (f := []) ⟨rfl, rfl⟩ .nil)))) HM.emp) ?_
      rintro v2276 w2287 HM
      replace HM := HM.front 1 rfl rfl
      obtain ⟨F2281, hF2282, hFn2283, hFl2284, HMh2285, hcl2286⟩ := HM.hide (Ms := [box b0 150 [p0_0, .int .i64 t2224.2]])
      refine od rfl rfl rfl rfl (does_callk rfl callok53 rfl (spec_l1Pick.calls (x0 := (⟨x0.fCode, t2224.2⟩ : l1Src)) (x1 := ([0, 4, 2] : List Int)) (hide_olds _ _) hF2282 hFn2283 hFl2284 (HMh2285.rdo hwo hp0_0) (HMh2285.own_rd 0 rfl) h2280)) ?_
      rintro _ w2288 ⟨rfl, hn⟩
      replace HM : Mem w X w2288 [box b0 150 [p0_0, .int .i64 t2279.2], own kInt 2 v2276 ([0, 4, 2] : List Int), box b2218 67 [u2210, .int .i64 t2208.1.fNeed, .int .i64 t2208.1.fAfter], own kInt 2 u2210 t2208.1.fKeys, box b2204 67 [.slice none 0 0, .int .i64 0, .int .i64 0]] := hcl2286 _ _ hn
      refine ox rfl rfl rfl rfl (ex_fieldAddr (off' := 1) rfl rfl Try.underlying67 rfl tsz2 rfl) ?_
      replace HM := HM.front 2 rfl rfl
      refine odS rfl rfl rfl (does_store (vs := [.int .i64 t2279.1]) (cs' := [u2210, .int .i64 t2279.1, .int .i64 t2208.1.fAfter]) rfl rfl rfl rfl tsz2 (Ones.int Ones.nil) rfl rfl HM) ?_
      rintro w2289 HM
      refine ops_nil ?_
      refine at_block ?_
      refine at_then ?_
      refine run_seq ?_
      refine run_region rfl ?_
      refine ox rfl rfl rfl rfl (ex_loadN (cs := [u2210, (.int .i64 t2279.1), (.int .i64 t2208.1.fAfter)]) rfl rfl Try.underlying67 rfl tsz67 rfl ((HM.box_at 0 rfl).sub 0 3 rfl)) ?_
      replace HM := HM.front 4 rfl rfl
      refine odS rfl rfl rfl (does_store (vs := [u2210, .int .i64 t2279.1, .int .i64 t2208.1.fAfter]) (cs' := [u2210, .int .i64 t2279.1, .int .i64 t2208.1.fAfter]) rfl rfl rfl rfl tsz67 (Ones.rd (HM.own_rd 4 rfl) (Ones.int (Ones.int Ones.nil))) rfl rfl HM) ?_
      rintro w2290 HM
      refine ops_nil (at_then ?_)
      refine run_ret ?_
      replace HM := (HM.front 1 rfl rfl).drop
      replace HM := (HM.front 2 rfl rfl).drop
      replace HM := HM.front 1 rfl rfl
      replace HM := HM.front 2 rfl rfl
      replace HM := HM.front 2 rfl rfl
      have hcb0 := HM.box_at 0 rfl
      replace HM := (HM.front 0 rfl rfl).drop
      have hR := Option.some.inj H
      subst hR
      exact at_retN rfl rfl Try.underlying67 rfl tsz67 rfl hcb0 ⟨_, rfl, _, rfl, HM⟩
    · replace H := cond_f hb2275 H
      refine run_seq ?_
      refine run_region rfl ?_
      refine ox rfl rfl rfl rfl (ex_eql rfl rfl rfl) ?_
      refine ox rfl rfl rfl rfl (ex_assign rfl rfl) ?_
      refine ops_nil (at_then ?_)
      refine run_cond (b := (t2224.1 == 2)) rfl (fun hb2291 => ?_) (fun hb2291 => ?_)
      · replace H := cond_t hb2291 H
        obtain ⟨t2295, h2296, H⟩ := bind_some H
        refine run_region rfl ?_
        refine ox rfl rfl rfl rfl (ex_move rfl rfl) ?_
        refine od rfl rfl rfl rfl (does_lit (e := 2) (cs := [.int .i64 (-1), .int .i64 999, .int .i64 1000]) (xs := ([(-1), 999, 1000] : List Int)) kInt rfl rfl (fun _ => by kernel_rfl) rfl rfl (fun _ _ h => by have h' : _ = [] := h; subst h'; exact (Elems.cons (d := kInt) (x := (-1)) (f := []) ⟨rfl, rfl⟩ (Elems.cons (d := kInt) (x := 999) (f := []) ⟨rfl, rfl⟩ (Elems.cons (d := kInt) (x := 1000) (f := []) ⟨rfl, rfl⟩ .nil)))) HM.emp) ?_
        rintro v2292 w2303 HM
        replace HM := HM.front 1 rfl rfl
        obtain ⟨F2297, hF2298, hFn2299, hFl2300, HMh2301, hcl2302⟩ := HM.hide (Ms := [box b0 150 [p0_0, .int .i64 t2224.2]])
        refine od rfl rfl rfl rfl (does_callk rfl callok53 rfl (spec_l1Pick.calls (x0 := (⟨x0.fCode, t2224.2⟩ : l1Src)) (x1 := ([(-1), 999, 1000] : List Int)) (hide_olds _ _) hF2298 hFn2299 hFl2300 (HMh2301.rdo hwo hp0_0) (HMh2301.own_rd 0 rfl) h2296)) ?_
        rintro _ w2304 ⟨rfl, hn⟩
        replace HM : Mem w X w2304 [box b0 150 [p0_0, .int .i64 t2295.2], own kInt 2 v2292 ([(-1), 999, 1000] : List Int), box b2218 67 [u2210, .int .i64 t2208.1.fNeed, .int .i64 t2208.1.fAfter], own kInt 2 u2210 t2208.1.fKeys, box b2204 67 [.slice none 0 0, .int .i64 0, .int .i64 0]] := hcl2302 _ _ hn
        refine ox rfl rfl rfl rfl (ex_fieldAddr (off' := 2) rfl rfl Try.underlying67 rfl tsz2 rfl) ?_
        replace HM := HM.front 2 rfl rfl
        refine odS rfl rfl rfl (does_store (vs := [.int .i64 t2295.1]) (cs' := [u2210, .int .i64 t2208.1.fNeed, .int .i64 t2295.1]) rfl rfl rfl rfl tsz2 (Ones.int Ones.nil) rfl rfl HM) ?_
        rintro w2305 HM
        refine ops_nil ?_
        refine at_block ?_
        refine at_then ?_
        refine run_seq ?_
        refine run_region rfl ?_
        refine ox rfl rfl rfl rfl (ex_loadN (cs := [u2210, (.int .i64 t2208.1.fNeed), (.int .i64 t2295.1)]) rfl rfl Try.underlying67 rfl tsz67 rfl ((HM.box_at 0 rfl).sub 0 3 rfl)) ?_
        replace HM := HM.front 4 rfl rfl
        refine odS rfl rfl rfl (does_store (vs := [u2210, .int .i64 t2208.1.fNeed, .int .i64 t2295.1]) (cs' := [u2210, .int .i64 t2208.1.fNeed, .int .i64 t2295.1]) rfl rfl rfl rfl tsz67 (Ones.rd (HM.own_rd 4 rfl) (Ones.int (Ones.int Ones.nil))) rfl rfl HM) ?_
        rintro w2306 HM
        refine ops_nil (at_then ?_)
        refine run_ret ?_
        replace HM := (HM.front 1 rfl rfl).drop
        replace HM := (HM.front 2 rfl rfl).drop
        replace HM := HM.front 1 rfl rfl
        replace HM := HM.front 2 rfl rfl
        replace HM := HM.front 2 rfl rfl
        have hcb0 := HM.box_at 0 rfl
        replace HM := (HM.front 0 rfl rfl).drop
        have hR := Option.some.inj H
        subst hR
        exact at_retN rfl rfl Try.underlying67 rfl tsz67 rfl hcb0 ⟨_, rfl, _, rfl, HM⟩
      · replace H := cond_f hb2291 H
        refine run_seq ?_
        refine run_region rfl ?_
        refine ox rfl rfl rfl rfl (ex_eql rfl rfl rfl) ?_
        refine ox rfl rfl rfl rfl (ex_assign rfl rfl) ?_
        refine ops_nil (at_then ?_)
        refine run_cond (b := (t2224.1 == 3)) rfl (fun hb2307 => ?_) (fun hb2307 => ?_)
        · replace H := cond_t hb2307 H
          refine run_region rfl ?_
          refine ox rfl rfl rfl rfl (ex_fieldAddr (off' := 0) rfl rfl Try.underlying67 rfl tsz39 rfl) ?_
          replace HM := HM.front 1 rfl rfl
          refine odS rfl rfl rfl (does_store (vs := [.slice none 0 0]) (cs' := [.slice none 0 0, .int .i64 t2208.1.fNeed, .int .i64 t2208.1.fAfter]) rfl rfl rfl rfl tsz39 (Ones.sl Ones.nil) rfl rfl HM) ?_
          rintro w2308 HM
          refine ops_nil ?_
          refine at_block ?_
          refine at_then ?_
          refine run_seq ?_
          refine run_region rfl ?_
          refine ox rfl rfl rfl rfl (ex_loadN (cs := [(.slice none 0 0), (.int .i64 t2208.1.fNeed), (.int .i64 t2208.1.fAfter)]) rfl rfl Try.underlying67 rfl tsz67 rfl ((HM.box_at 0 rfl).sub 0 3 rfl)) ?_
          replace HM := HM.front 3 rfl rfl
          refine odS rfl rfl rfl (does_store (vs := [.slice none 0 0, .int .i64 t2208.1.fNeed, .int .i64 t2208.1.fAfter]) (cs' := [.slice none 0 0, .int .i64 t2208.1.fNeed, .int .i64 t2208.1.fAfter]) rfl rfl rfl rfl tsz67 (Ones.sl (Ones.int (Ones.int Ones.nil))) rfl rfl HM) ?_
          rintro w2309 HM
          refine ops_nil (at_then ?_)
          refine run_ret ?_
          replace HM := HM.empty kInt 2 none
          replace HM := (HM.front 2 rfl rfl).drop
          replace HM := (HM.front 3 rfl rfl).drop
          replace HM := HM.front 2 rfl rfl
          replace HM := HM.front 1 rfl rfl
          replace HM := HM.front 2 rfl rfl
          have hcb0 := HM.box_at 0 rfl
          replace HM := (HM.front 0 rfl rfl).drop
          have hR := Option.some.inj H
          subst hR
          exact at_retN rfl rfl Try.underlying67 rfl tsz67 rfl hcb0 ⟨_, rfl, _, rfl, HM⟩
        · replace H := cond_f hb2307 H
          refine run_skip ?_
          refine at_block ?_
          refine at_then ?_
          refine run_seq ?_
          refine run_region rfl ?_
          refine ox rfl rfl rfl rfl (ex_loadN (cs := [u2210, (.int .i64 t2208.1.fNeed), (.int .i64 t2208.1.fAfter)]) rfl rfl Try.underlying67 rfl tsz67 rfl ((HM.box_at 1 rfl).sub 0 3 rfl)) ?_
          replace HM := HM.front 3 rfl rfl
          refine odS rfl rfl rfl (does_store (vs := [u2210, .int .i64 t2208.1.fNeed, .int .i64 t2208.1.fAfter]) (cs' := [u2210, .int .i64 t2208.1.fNeed, .int .i64 t2208.1.fAfter]) rfl rfl rfl rfl tsz67 (Ones.rd (HM.own_rd 3 rfl) (Ones.int (Ones.int Ones.nil))) rfl rfl HM) ?_
          rintro w2311 HM
          refine ops_nil (at_then ?_)
          refine run_ret ?_
          replace HM := (HM.front 2 rfl rfl).drop
          replace HM := HM.front 1 rfl rfl
          replace HM := HM.front 2 rfl rfl
          replace HM := HM.front 2 rfl rfl
          have hcb0 := HM.box_at 0 rfl
          replace HM := (HM.front 0 rfl rfl).drop
          have hR := Option.some.inj H
          subst hR
          exact at_retN rfl rfl Try.underlying67 rfl tsz67 rfl hcb0 ⟨_, rfl, _, rfl, HM⟩
end Go.Proofs.Ytbbcabpnkdilgaa.Zk
