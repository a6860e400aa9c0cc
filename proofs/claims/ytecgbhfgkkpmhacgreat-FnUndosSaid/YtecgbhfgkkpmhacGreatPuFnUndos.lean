/- The plain law of FnUndos: what the program's function and the reference's compute is the same. No condition. -/
import Derived.Test.YtecgbhfgkkpmhacGreatPuFnUndosA
import Derived.Test.YtecgbhfgkkpmhacGreatZkPure
import Derived.Test.YtecgbhfgkkpmhacGreatFnUndosZkOpn
import Derived.Test.YtecgbhfgkkpmhacGreatFnUndosZkF18
import Derived.Lib.ItoaNum
import Derived.Lib.Join
namespace Go.Proofs.YtecgbhfgkkpmhacGreat.Zk
open Go Go.RowKit Go.IntWalk
set_option linter.unusedVariables false
set_option linter.unusedSimpArgs false

theorem tx_ok (x0 : Tx) (h : (spec_l3Fault_v x0 != 0) = false) : TxOK x0 := by
 have h0 : spec_l3Fault_v x0 = 0 := by simpa using h
 unfold spec_l3Fault_v at h0
 cases hc : ((!(spec_l1In_v x0.fKind 0 2)) || ((x0.fKind == 0) != (x0.fMember == 0)))
 ·rw [hc] at h0
  cases hd : ((x0.fKind != 0) && (!(bif (x0.fKind != 0) then (spec_l1Key_v x0.fMember) else default)))
  ·rw [hd] at h0
   cases he : ((!(spec_l1In_v (x0.fIns.length : Int) 1 4)) || (!(bif (!(!(spec_l1In_v (x0.fIns.length : Int) 1 4))) then (spec_l1In_v (x0.fOuts.length : Int) 1 4) else default)))
   ·rw [he] at h0
    have h1 : onO ((List.range' 0 (x0.fIns.length - 0)).findSome? (fun (i0 : Nat) => (bif !(spec_l3Ref_v (gt x0.fIns (i0 : Int))) then (some (3 : Int)) else (bif (spec_l3Among_v (x0.fIns.take ((i0 : Int)).toNat) (gt x0.fIns (i0 : Int))) then (some 7) else none)))) (fun r => r) (spec_l3Outs_v x0) = 0 := h0
    obtain ⟨h2, h3⟩ := onO_zero h1 (fun i => by
     cases spec_l3Ref_v (gt x0.fIns (i : Int))
     ·simp
     ·cases spec_l3Among_v (x0.fIns.take ((i : Int)).toNat) (gt x0.fIns (i : Int)) <;> simp)
    have hk := fs_all h2
    unfold spec_l3Outs_v at h3
    obtain ⟨h4, _⟩ := onO_zero h3 (fun i => by
     cases spec_l1In_v ((gt x0.fOuts (i : Int)).fValue) 1 1000000
     ·simp
     ·cases hq : spec_l2Fault_v ((gt x0.fOuts (i : Int)).fRule) != 0
      ·simp
      ·simp only [Bool.not_true, cond_false, cond_true]
       intro e
       rw [Option.some.inj e] at hq; cases hq)
    have hl := fs_all h4
    simp only [spec_l1In_v, spec_l1Key_v, Bool.or_eq_false_iff, Bool.not_eq_false', Bool.and_eq_true, decide_eq_true_eq] at hc he
    obtain ⟨hc1, hc2⟩ := hc
    obtain ⟨he1, he2⟩ := he
    have he3 : 1 ≤ (x0.fOuts.length : Int) ∧ (x0.fOuts.length : Int) ≤ 4 := by
     have e : (decide (1 ≤ (x0.fIns.length : Int)) && decide ((x0.fIns.length : Int) ≤ 4)) = true := by rw [Bool.and_eq_true, decide_eq_true_eq, decide_eq_true_eq]; exact he1
     rw [e] at he2
     have he2' : (decide (1 ≤ (x0.fOuts.length : Int)) && decide ((x0.fOuts.length : Int) ≤ 4)) = true := he2
     rwa [Bool.and_eq_true, decide_eq_true_eq, decide_eq_true_eq] at he2'
    have hc3 : (x0.fKind == 0) = (x0.fMember == 0) := by
     cases e1 : (x0.fKind == 0) <;> cases e2 : (x0.fMember == 0) <;> rw [e1, e2] at hc2 <;> first | rfl | cases hc2
    refine ⟨hc1, fun hz => ?_, fun hz => ?_, by omega, by omega, by omega, by omega, fun r hr => ?_, fun o ho => ?_⟩
    ·have : (x0.fMember == 0) = true := by rw [← hc3, hz]; rfl
     simpa using this
    ·have e1 : (x0.fKind != 0) = true := by simpa using hz
     rw [e1] at hd
     have hd' : spec_l1Key_v x0.fMember = true := by
      cases hq : spec_l1Key_v x0.fMember
      ·rw [hq] at hd; cases hd
      ·rfl
     simpa only [spec_l1Key_v, spec_l1In_v, Bool.and_eq_true, decide_eq_true_eq] using hd'
    ·obtain ⟨i, hi, rfl⟩ := List.getElem_of_mem hr
     have h5 := hk i hi
     rw [gt_eq (by simpa using hi)] at h5
     cases h6 : spec_l3Ref_v x0.fIns[i]
     ·simp only [Int.toNat_natCast] at h5; rw [h6] at h5; cases h5
     ·unfold spec_l3Ref_v at h6
      rw [Bool.and_eq_true] at h6
      rw [h6.1] at h6
      have h7 : spec_l1In_v x0.fIns[i].fAt 0 3 = true := h6.2
      have h8 := h6.1
      simp only [spec_l1In_v, Bool.and_eq_true, decide_eq_true_eq] at h7
      refine ⟨?_, h7⟩
      have h9 : spec_l1In_v x0.fIns[i].fTx 1 60 = true := by
       cases hq : spec_l1In_v x0.fIns[i].fTx 1 60
       ·have h5' := hk i hi
        rw [gt_eq (by simpa using hi)] at h5'
        simp only [Int.toNat_natCast, spec_l3Ref_v] at h5'
        rw [hq] at h5'; cases h5'
       ·rfl
      simpa only [spec_l1In_v, Bool.and_eq_true, decide_eq_true_eq] using h9
    ·obtain ⟨i, hi, rfl⟩ := List.getElem_of_mem ho
     have h5 := hl i hi
     rw [gt_eq (by simpa using hi)] at h5
     simp only [Int.toNat_natCast] at h5
     cases h6 : spec_l1In_v x0.fOuts[i].fValue 1 1000000
     ·rw [h6] at h5; cases h5
     ·rw [h6] at h5
      simp only [spec_l1In_v, Bool.and_eq_true, decide_eq_true_eq] at h6
      refine ⟨h6, ?_⟩
      cases h7 : spec_l2Fault_v x0.fOuts[i].fRule != 0
      ·simpa using h7
      ·rw [h7] at h5; cases h5
   ·rw [he] at h0; exact absurd (show (2 : Int) = 0 from h0) (by decide)
  ·rw [hd] at h0; exact absurd (show (3 : Int) = 0 from h0) (by decide)
 ·rw [hc] at h0; exact absurd (show (1 : Int) = 0 from h0) (by decide)
def refL (r : Ref) : List UInt8 := dgL r.fTx ++ [58] ++ dgL r.fAt
def outL (o : Out) : List UInt8 := dgL o.fValue ++ [61] ++ ruleL o.fRule [95]
def kindW (k : Int) : List UInt8 := bif k == 0 then [112, 97, 121] else bif k == 1 then [106, 111, 105, 110] else [108, 101, 97, 118, 101]
def txHead (t : Tx) : List (List UInt8) := bif t.fKind != 0 then [kindW t.fKind, dgL t.fMember] else [kindW t.fKind]
def txWs (t : Tx) : List (List UInt8) := txHead t ++ [Lib.join (t.fIns.map refL) [43]] ++ t.fOuts.map outL
def txL (t : Tx) : List UInt8 := Lib.join (txWs t) [32]
theorem refL_len {r : Ref} (h : (1 ≤ r.fTx ∧ r.fTx ≤ 60) ∧ 0 ≤ r.fAt ∧ r.fAt ≤ 3) : (refL r).length ≤ 4 := by
 have h1 := dg_l2 (n := r.fTx) (by omega)
 have h2 := dg_l1 (n := r.fAt) (by omega)
 unfold refL
 simp only [List.length_append, List.length_cons, List.length_nil]; omega
theorem outL_len {o : Out} (h : (1 ≤ o.fValue ∧ o.fValue ≤ 1000000) ∧ spec_l2Fault_v o.fRule = 0) : (outL o).length ≤ 58 := by
 have h1 := dg_l7 (n := o.fValue) (by omega)
 have h2 := ruleL_len o.fRule 95 (rule_ok o.fRule (by rw [h.2]; rfl))
 unfold outL
 simp only [List.length_append, List.length_cons, List.length_nil]; omega
theorem ins_len {t : Tx} (ht : TxOK t) : (Lib.join (t.fIns.map refL) [43]).length ≤ 20 := by
 have hk := join_le (m := 4) (n := 4) (sep := [43]) (xs := t.fIns.map refL) (by
  intro x hx
  obtain ⟨y, hy, rfl⟩ := List.mem_map.1 hx
  exact refL_len (ht.ins y hy)) (by rw [List.length_map]; exact ht.ins4)
 simp only [List.length_cons, List.length_nil] at hk; omega
theorem tail_app (s : List UInt8) (a b : List (List UInt8)) : Lib.joinTail s (a ++ b) = Lib.joinTail s a ++ Lib.joinTail s b := by simp [Lib.joinTail]
theorem txL_eq (t : Tx) : txL t = (bif t.fKind != 0 then kindW t.fKind ++ [32] ++ dgL t.fMember else kindW t.fKind) ++ [32] ++ Lib.join (t.fIns.map refL) [43] ++ Lib.joinTail [32] (t.fOuts.map outL) := by
 unfold txL txWs txHead
 cases t.fKind != 0
 ·simp only [cond_false]
  rw [List.append_assoc, List.cons_append, List.nil_append, Lib.join_cons, tail_app]
  simp [Lib.joinTail]
 ·simp only [cond_true]
  rw [List.append_assoc, List.cons_append, Lib.join_cons, tail_app, tail_app]
  simp [Lib.joinTail]
theorem sm_rule {r : Rule} (h : spec_l2Fault_v r = 0) : smRule r := ⟨⟨by have := (rule_ok r (by rw [h]; rfl)).n3; omega, fun _ _ => trivial⟩, trivial, trivial⟩
theorem sm_tx (K M : Int) (is : List Ref) (os : List Out) (hi : is.length ≤ 1048576) (ho : os.length ≤ 1048576) (h : ∀ o ∈ os, spec_l2Fault_v o.fRule = 0) : smTx ⟨K, M, is, os⟩ :=
 ⟨trivial, trivial, ⟨hi, fun _ _ => ⟨trivial, trivial⟩⟩, ⟨ho, fun o ho => ⟨trivial, sm_rule (h o ho)⟩⟩⟩
def okR (r : Ref) : Prop := (1 ≤ r.fTx ∧ r.fTx ≤ 60) ∧ 0 ≤ r.fAt ∧ r.fAt ≤ 3
def okO (o : Out) : Prop := (1 ≤ o.fValue ∧ o.fValue ≤ 1000000) ∧ spec_l2Fault_v o.fRule = 0
theorem l3Draw_l0 (c : List Int) (z : l1Src) (hz : z.fCode = c) (hc : codeOK c) : ∀ (d : Nat) (a : Int) (xs : List Ref), 0 ≤ a → a + 2 * d ≤ 900000 → xs.length + d ≤ 2 → (∀ r ∈ xs, okR r) → ∃ a' xs', Evt (fun k => spec_l3Draw.l0 z k a xs (d : Int)) (a', xs') ∧ a ≤ a' ∧ a' ≤ a + 2 * d ∧ xs'.length ≤ 2 ∧ (∀ r ∈ xs', okR r) ∧ (1 ≤ xs.length + d → 1 ≤ xs'.length)
 | 0, a, xs, h0, h1, h2, h3 => by
  refine ⟨a, xs, Evt.s ?_, by omega, by omega, by omega, h3, fun h => by omega⟩
  simp only [spec_l3Draw.l0.eq_2]
  exact Evt.f rfl (Evt.self _)
 | d + 1, a, xs, h0, h1, h2, h3 => by
  obtain ⟨v, ev, v0, v1⟩ := next_ev c a 6 hc (by omega) (by omega)
  obtain ⟨u, eu, u0, u1⟩ := next_ev c (a + 1) 2 hc (by omega) (by omega)
  have hd : decide ((0 : Int) < ((d + 1 : Nat) : Int)) = true := decide_eq_true (by omega)
  have ew : wrap64 (((d + 1 : Nat) : Int) - 1) = (d : Int) := by rw [wrap64_in _ (by omega)]; omega
  have e1 : wrap64 (1 + v) = 1 + v := w_in (by omega)
  have ea := spec_l3Among_ev xs ⟨1 + v, u⟩ ⟨by omega, fun _ _ => ⟨trivial, trivial⟩⟩
  cases hm : spec_l3Among_v xs ⟨1 + v, u⟩
  ·obtain ⟨a', xs', e, q1, q2, q3, q4, q5⟩ := l3Draw_l0 c z hz hc d (a + 1 + 1) (xs ++ [⟨1 + v, u⟩]) (by omega) (by omega) (by simp; omega) (fun x hx => by
    rcases List.mem_append.1 hx with hx | hx
    ·exact h3 x hx
    ·simp at hx; subst hx; exact ⟨⟨by show 1 ≤ 1 + v; omega, by show 1 + v ≤ 60; omega⟩, u0, by show u ≤ 3; omega⟩)
   refine ⟨a', xs', Evt.s ?_, by omega, by omega, q3, q4, fun _ => q5 (by rw [List.length_append]; simp only [List.length_cons, List.length_nil]; omega)⟩
   simp only [spec_l3Draw.l0.eq_2, hz]
   refine Evt.t hd (Evt.bind ev (Evt.bind eu ?_))
   simp only [e1, ew]
   exact Evt.bind ea (Evt.t (by rw [hm]; rfl) (Evt.chk (leB_mk2 (by simp; omega)) e))
  ·have hne : 1 ≤ xs.length := by
    cases xs with
    | nil => exact absurd ((rfl : spec_l3Among_v [] ⟨1 + v, u⟩ = false).symm.trans hm) Bool.false_ne_true
    | cons x xs => simp
   obtain ⟨a', xs', e, q1, q2, q3, q4, q5⟩ := l3Draw_l0 c z hz hc d (a + 1 + 1) xs (by omega) (by omega) (by omega) h3
   refine ⟨a', xs', Evt.s ?_, by omega, by omega, q3, q4, fun _ => q5 (by omega)⟩
   simp only [spec_l3Draw.l0.eq_2, hz]
   refine Evt.t hd (Evt.bind ev (Evt.bind eu ?_))
   simp only [e1, ew]
   exact Evt.bind ea (Evt.f (by rw [hm]; rfl) e)
theorem l3Draw_l1 (c : List Int) (z : l1Src) (hz : z.fCode = c) (hc : codeOK c) : ∀ (d : Nat) (a : Int) (xs : List Out), 0 ≤ a → a + 20 * d ≤ 700000 → xs.length + d ≤ 2 → (∀ o ∈ xs, okO o) → ∃ a' xs', Evt (fun k => spec_l3Draw.l1 z k a xs (d : Int)) (a', xs') ∧ a ≤ a' ∧ a' ≤ a + 20 * d ∧ xs'.length = xs.length + d ∧ (∀ o ∈ xs', okO o)
 | 0, a, xs, h0, h1, h2, h3 => by
  refine ⟨a, xs, Evt.s ?_, by omega, by omega, by omega, h3⟩
  simp only [spec_l3Draw.l1.eq_2]
  exact Evt.f rfl (Evt.self _)
 | d + 1, a, xs, h0, h1, h2, h3 => by
  obtain ⟨v, ev, v0, v1⟩ := next_ev c a 99 hc (by omega) (by omega)
  obtain ⟨r, b, er, r0, r1, hr⟩ := l2Draw_ev c (a + 1) hc (by omega) (by omega)
  have hd : decide ((0 : Int) < ((d + 1 : Nat) : Int)) = true := decide_eq_true (by omega)
  have ew : wrap64 (((d + 1 : Nat) : Int) - 1) = (d : Int) := by rw [wrap64_in _ (by omega)]; omega
  have e1 : wrap64 (100 + v) = 100 + v := w_in (by omega)
  obtain ⟨a', xs', e, q1, q2, q3, q4⟩ := l3Draw_l1 c z hz hc d b (xs ++ [⟨100 + v, ⟨r.fKeys, r.fNeed, r.fAfter⟩⟩]) (by omega) (by omega) (by simp; omega) (fun x hx => by
   rcases List.mem_append.1 hx with hx | hx
   ·exact h3 x hx
   ·simp at hx; subst hx; exact ⟨⟨by show 1 ≤ 100 + v; omega, by show 100 + v ≤ 1000000; omega⟩, hr⟩)
  refine ⟨a', xs', Evt.s ?_, by omega, by omega, by rw [q3]; simp; omega, q4⟩
  simp only [spec_l3Draw.l1.eq_2, hz]
  refine Evt.t hd (Evt.bind ev (Evt.bind er ?_))
  simp only [e1, ew]
  exact Evt.chk (leB_mk2 (by simp; omega)) e
theorem l3Draw_ev (c : List Int) (a : Int) (hc : codeOK c) (h0 : 0 ≤ a) (h1 : a ≤ 600000) : ∃ t a', Evt (fun k => spec_l3Draw.f k ⟨c, a⟩) (t, a') ∧ a ≤ a' ∧ a' ≤ a + 100 ∧ TxOK t := by
 obtain ⟨v1, e1, m1⟩ := pick_ev c a [0, 0, 0, 1, 2] hc (by omega) (by simp)
 have hv1 : 0 ≤ v1 ∧ v1 ≤ 2 := by simp only [List.mem_cons, List.not_mem_nil, or_false] at m1; omega
 obtain ⟨v2, e2, p2, q2⟩ := next_ev c (a + 1) 4 hc (by omega) (by omega)
 have w2 : wrap64 (1 + v2) = 1 + v2 := w_in (by omega)
 obtain ⟨b, m, eb, hb1, hb2, hm0, hm1⟩ : ∃ b m : Int, Evt (fun k => (bif (v1 != 0) then ((spec_l1Next.f k (⟨c, a + 1⟩ : l1Src) 4).bind fun t926 => some (t926.2, wrap64 (1 + t926.1))) else some (a + 1, 0))) (b, m) ∧ a + 1 ≤ b ∧ b ≤ a + 2 ∧ (v1 = 0 → m = 0) ∧ (v1 ≠ 0 → 1 ≤ m ∧ m ≤ 999) := by
  cases hv : v1 != 0
  ·exact ⟨a + 1, 0, Evt.f rfl (Evt.self _), by omega, by omega, fun _ => rfl, fun h => absurd (show v1 = 0 by simpa using hv) h⟩
  ·refine ⟨a + 1 + 1, 1 + v2, Evt.t rfl (Evt.bind e2 (Evt.ret ?_)), by omega, by omega, fun h => ?_, fun _ => by omega⟩
   ·show (a + 1 + 1, wrap64 (1 + v2)) = _
    rw [w2]
   ·rw [h] at hv; cases hv
 obtain ⟨v3, e3, p3, q3⟩ := next_ev c b 2 hc (by omega) (by omega)
 have w3 : wrap64 (1 + v3) = 1 + v3 := w_in (by omega)
 obtain ⟨n3, hn3⟩ : ∃ n : Nat, 1 + v3 = n := ⟨(1 + v3).toNat, by omega⟩
 obtain ⟨a3, rs, e4, r1, r2, r3, r4, r5⟩ := l3Draw_l0 c ⟨c, a⟩ rfl hc n3 (b + 1) [] (by omega) (by omega) (by simp; omega) (by simp)
 obtain ⟨v5, e5, p5, q5⟩ := next_ev c a3 2 hc (by omega) (by omega)
 have w5 : wrap64 (1 + v5) = 1 + v5 := w_in (by omega)
 obtain ⟨n5, hn5⟩ : ∃ n : Nat, 1 + v5 = n := ⟨(1 + v5).toNat, by omega⟩
 obtain ⟨a5, os, e6, s1, s2, s3, s4⟩ := l3Draw_l1 c ⟨c, a⟩ rfl hc n5 (a3 + 1) [] (by omega) (by omega) (by simp; omega) (by simp)
 simp only [List.length_nil, Nat.zero_add] at s3 r5
 refine ⟨⟨v1, m, rs, os⟩, a5, ?_, by omega, by omega, ⟨hv1, hm0, hm1, r5 (by omega), by show rs.length ≤ 4; omega, by show 1 ≤ os.length; omega, by show os.length ≤ 4; omega, r4, s4⟩⟩
 refine Evt.bind e1 (Evt.bindc eb (Evt.bindc (Evt.bind e3 (show Evt (fun k => spec_l3Draw.l0 ⟨c, a⟩ k (b + 1) [] (wrap64 (1 + v3))) (a3, rs) by rw [w3, hn3]; exact e4)) (Evt.bindc (Evt.bind e5 (show Evt (fun k => spec_l3Draw.l1 ⟨c, a⟩ k (a3 + 1) [] (wrap64 (1 + v5))) (a5, os) by rw [w5, hn5]; exact e6)) (Evt.self _))))
theorem okTx_sm {t : Tx} (h : TxOK t) : smTx t := sm_tx t.fKind t.fMember t.fIns t.fOuts (by have := h.ins4; omega) (by have := h.outs4; omega) (fun o ho => (h.outs o ho).2)
def spec_l1Max_v (x0 : Int) (x1 : Int) : Int := (bif (decide (x1 < x0)) then x0 else x1)
theorem spec_l1Max_ev (x0 : Int) (x1 : Int)  : Evt (fun k => spec_l1Max.f k x0 x1) (spec_l1Max_v x0 x1) :=
 (Evt.ifh (fun hc0 => (Evt.self _)) (fun hc0 => (Evt.self _)))
theorem sm_refs {xs : List Ref} (h : xs.length ≤ 1048576) : Lm smRef xs := ⟨h, fun _ _ => ⟨trivial, trivial⟩⟩
theorem l5Tx_loop (c : List Int) (z : l1Src) (hz : z.fCode = c) (hc : codeOK c) (xs : List Coin) (hx : 0 < xs.length) (hx2 : xs.length ≤ 1000) : ∀ (d : Nat) (a : Int) (rs : List Ref) (sum : Int), 0 ≤ a → a + d ≤ 800000 → rs.length + d ≤ 10 → ∃ a' rs' sum', Evt (fun k => spec_l5Tx.l0 z xs k a rs sum (d : Int)) (a', rs', sum') ∧ a ≤ a' ∧ a' ≤ a + d ∧ rs'.length ≤ rs.length + d
 | 0, a, rs, sum, h0, h1, h2 => by
  refine ⟨a, rs, sum, Evt.s ?_, by omega, by omega, by omega⟩
  simp only [spec_l5Tx.l0.eq_2]
  exact Evt.f rfl (Evt.self _)
 | d + 1, a, rs, sum, h0, h1, h2 => by
  obtain ⟨v, ev, v0, v1⟩ := next_ev c a (xs.length : Int) hc (by omega) (by omega)
  have hd : decide ((0 : Int) < ((d + 1 : Nat) : Int)) = true := decide_eq_true (by omega)
  have ew : wrap64 (((d + 1 : Nat) : Int) - 1) = (d : Int) := by rw [wrap64_in _ (by omega)]; omega
  have hv : idxOk v xs.length = true := by unfold idxOk; simp; omega
  have ea := spec_l3Among_ev rs (gt xs v).fRef (sm_refs (by omega))
  cases hq : !(spec_l3Among_v rs (gt xs v).fRef)
  ·obtain ⟨a', rs', s', e, q1, q2, q3⟩ := l5Tx_loop c z hz hc xs hx hx2 d (a + 1) rs sum (by omega) (by omega) (by omega)
   refine ⟨a', rs', s', Evt.s ?_, by omega, by omega, by omega⟩
   simp only [spec_l5Tx.l0.eq_2, hz, ew]
   exact Evt.t hd (Evt.bind ev (Evt.chk hv (Evt.bind ea (Evt.f hq e))))
  ·obtain ⟨a', rs', s', e, q1, q2, q3⟩ := l5Tx_loop c z hz hc xs hx hx2 d (a + 1) (rs ++ [(gt xs v).fRef]) (wrap64 (sum + (gt xs v).fOut.fValue)) (by omega) (by omega) (by simp; omega)
   refine ⟨a', rs', s', Evt.s ?_, by omega, by omega, by simp at q3; omega⟩
   simp only [spec_l5Tx.l0.eq_2, hz, ew]
   exact Evt.t hd (Evt.bind ev (Evt.chk hv (Evt.bind ea (Evt.t hq (Evt.chk (leB_mk2 (by simp; omega)) e)))))
theorem Evt.bindc3 {A B C γ : Type} {F : Nat → Option (A × B × C)} {G : Nat → A → B → C → Option γ} {a : A} {b : B} {c : C} {r : γ} (h : Evt F (a, b, c)) (h2 : Evt (fun k => G k a b c) r) : Evt (fun k => (F k).bind (cur3 (G k))) r := Evt.bind h h2
theorem l5Tx_ev (c : List Int) (a : Int) (xs : List Coin) (hc : codeOK c) (hx2 : xs.length ≤ 1000) (h0 : 0 ≤ a) (h1 : a ≤ 500000) : ∃ t a', Evt (fun k => spec_l5Tx.f k ⟨c, a⟩ xs) (t, a') ∧ smTx t ∧ a ≤ a' ∧ a' ≤ a + 200 := by
 obtain ⟨t0, a1, e0, p1, q1, ht⟩ := l3Draw_ev c a hc h0 (by omega)
 have hs0 := okTx_sm ht
 obtain ⟨b, eb⟩ := chance_ev c a1 8 hc (by omega) (by omega)
 cases hx : decide (0 < (xs.length : Int))
 ·refine ⟨t0, a1, Evt.bind e0 (Evt.bindc5 (a := a1) (b := t0.fKind) (c := t0.fMember) (d := t0.fIns) (e := t0.fOuts) (Evt.bind (a := (default, a1)) (Evt.f hx (Evt.self _)) (Evt.f (by show (decide (0 < (xs.length : Int)) && _) = false; rw [hx]; rfl) (Evt.self _))) (Evt.self _)), hs0, by omega, by omega⟩
 ·have hpos : 0 < xs.length := by have := of_decide_eq_true hx; omega
  cases b
  ·obtain ⟨v, ev, v0, v1⟩ := next_ev c (a1 + 1) 2 hc (by omega) (by omega)
   obtain ⟨n, hn⟩ : ∃ n : Nat, 1 + v = n := ⟨(1 + v).toNat, by omega⟩
   have w1 : wrap64 (1 + v) = (n : Int) := by rw [w_in (by omega)]; exact hn
   obtain ⟨a2, rs, sum, e2, r1, r2, r3⟩ := l5Tx_loop c ⟨c, a⟩ rfl hc xs hpos hx2 n (a1 + 1 + 1) [] 0 (by omega) (by omega) (by simp; omega)
   simp only [List.length_nil, Nat.zero_add] at r3
   have e2' : Evt (fun k => spec_l5Tx.l0 ⟨c, a⟩ xs k (a1 + 1 + 1) ([] : List Ref) 0 (wrap64 (1 + v))) (a2, rs, sum) := by rw [w1]; exact e2
   obtain ⟨b2, eb2⟩ := chance_ev c a2 4 hc (by omega) (by omega)
   have hrs : Lm smRef rs := sm_refs (by omega)
   have hcond : ((decide (0 < (xs.length : Int))) && (!false)) = true := by rw [hx]; rfl
   cases hq : (!b2) && (decide (0 < sum))
   ·refine ⟨⟨t0.fKind, t0.fMember, rs, t0.fOuts⟩, a2 + 1, Evt.bind e0 (Evt.bindc5 (Evt.bind (Evt.t hx eb) (Evt.t hcond (Evt.bindc3 (Evt.bind ev e2') (Evt.bind eb2 (Evt.f hq (Evt.self _)))))) (Evt.self _)), ⟨trivial, trivial, hrs, hs0.2.2.2⟩, by omega, by omega⟩
   ·obtain ⟨u, eu, u0, u1⟩ := next_ev c (a2 + 1) 5 hc (by omega) (by omega)
    have em := spec_l1Max_ev 1 (wrap64 (sum - u))
    obtain ⟨r, a3, er, p3, q3, hr⟩ := l2Draw_ev c (a2 + 1 + 1) hc (by omega) (by omega)
    have hout : Lm smOut [(⟨spec_l1Max_v 1 (wrap64 (sum - u)), r⟩ : Out)] := ⟨by simp, fun o ho => by simp at ho; subst ho; exact ⟨trivial, rule_sm hr⟩⟩
    cases hk : (t0.fKind == 1) && (decide (((gt ([(⟨spec_l1Max_v 1 (wrap64 (sum - u)), (⟨r.fKeys, r.fNeed, r.fAfter⟩ : Rule)⟩ : Out)] : List Out) (0 : Int)).fValue) < 100))
    ·exact ⟨⟨t0.fKind, t0.fMember, rs, [⟨spec_l1Max_v 1 (wrap64 (sum - u)), r⟩]⟩, a3, Evt.bind e0 (Evt.bindc5 (Evt.bind (Evt.t hx eb) (Evt.t hcond (Evt.bindc3 (Evt.bind ev e2') (Evt.bind eb2 (Evt.t hq (Evt.bind eu (Evt.bind em (Evt.bind er (Evt.chk (or_ok rfl) (Evt.f hk (Evt.self _)))))))))) ) (Evt.self _)), ⟨trivial, trivial, hrs, hout⟩, by omega, by omega⟩
    ·exact ⟨⟨0, 0, rs, [⟨spec_l1Max_v 1 (wrap64 (sum - u)), r⟩]⟩, a3, Evt.bind e0 (Evt.bindc5 (Evt.bind (Evt.t hx eb) (Evt.t hcond (Evt.bindc3 (Evt.bind ev e2') (Evt.bind eb2 (Evt.t hq (Evt.bind eu (Evt.bind em (Evt.bind er (Evt.chk (or_ok rfl) (Evt.t hk (Evt.self _)))))))))) ) (Evt.self _)), ⟨trivial, trivial, hrs, hout⟩, by omega, by omega⟩
  ·exact ⟨t0, a1 + 1, Evt.bind e0 (Evt.bindc5 (a := a1 + 1) (b := t0.fKind) (c := t0.fMember) (d := t0.fIns) (e := t0.fOuts) (Evt.bind (Evt.t hx eb) (Evt.f (by show (decide (0 < (xs.length : Int)) && (!true)) = false; rw [hx]; rfl) (Evt.self _))) (Evt.self _)), hs0, by omega, by omega⟩
theorem word_ev (c : List Int) (a : Int) (hc : codeOK c) (ha : 0 ≤ a ∧ a ≤ 1000000) : ∃ w, Evt (fun k => spec_l1Word.f k ⟨c, a⟩) (w, a + 1) := by
 obtain ⟨v, e, v0, v1⟩ := next_ev c a 5 hc ha (by omega)
 exact ⟨_, Evt.bind e (Evt.chk (by unfold idxOk; simp; omega) (Evt.self _))⟩
def spec_l1At_v (x0 : List ByteArray) (x1 : ByteArray) : Int := (onO ((List.range' 0 (x0.length - 0)).findSome? (fun (i0 : Nat) => (bif (sEq (gt x0 (i0 : Int)) x1) then (some (wrap64 ((i0 : Int) + 1))) else none))) (fun r => r) 0)
theorem spec_l1At_ev (x0 : List ByteArray) (x1 : ByteArray) (h_x0 : (Lm tr) x0) : Evt (fun k => spec_l1At.f k x0 x1) (spec_l1At_v x0 x1) :=
 (Evt.loop (r' := fun r => r) (Evt.srch (L := (fun k i => spec_l1At.l0 x0 x1 k i)) 0 x0.length (by have := h_x0; first | (have := this.1; omega) | omega) (fun (i0 : Nat) => (bif (sEq (gt x0 (i0 : Int)) x1) then (some (wrap64 ((i0 : Int) + 1))) else none)) (fun i0 hs2 hi2 => by
 have hbn : x0.length ≤ 9223372036854775807 := (by have := h_x0; first | (have := this.1; omega) | omega)
 simp only [spec_l1At.l0.eq_2]
 exact Evt_t2 (int_lt hi2) (StE.chk (by first | exact idx_ok (by omega) | exact idx_ok (by have hq := len_eq (by assumption); omega) | exact idx_found (show (0 : Int) ≤ (i0 : Int) by simp_all) | exact cut_ok (by omega) | exact or_ok (idx_ok (by omega)) | (refine or1 (fun hz => pre_ok (by simp at hz; omega) (by omega) (by omega))) | exact pre_ok (by omega) (by omega) (by omega) | (simp_all [idxOk, cutOk, leB]; done) | (simp_all [idxOk, cutOk, leB]; omega) | (simp [idxOk, cutOk, leB] at *; omega) | (have hf0 := h_x0.1; simp only [leB, decide_eq_true_eq, List.length_append, List.length_cons, List.length_nil]; omega)) (StE.ifh (fun hc1 => (StE.ret _)) (fun hc1 => StE.next)))) (fun j hj => by
 simp only [spec_l1At.l0.eq_2]
 exact Evt.f (ge_lt hj) (Evt.self _))) (fun _ => rfl) (Evt.self _))
def spec_l1Signed_v (x0 : List Sign) (x1 : Sign) : Bool := (onO ((List.range' 0 (x0.length - 0)).findSome? (fun (i0 : Nat) => (bif ((((gt x0 (i0 : Int)).fKey) == x1.fKey) && (((gt x0 (i0 : Int)).fId) == x1.fId)) then (some true) else none))) (fun r => r) false)
theorem spec_l1Signed_ev (x0 : List Sign) (x1 : Sign) (h_x0 : (Lm smSign) x0) : Evt (fun k => spec_l1Signed.f k x0 x1) (spec_l1Signed_v x0 x1) :=
 (Evt.loop (r' := fun r => r) (Evt.srch (L := (fun k i => spec_l1Signed.l0 x0 x1 k i)) 0 x0.length (by have := h_x0; first | (have := this.1; omega) | omega) (fun (i0 : Nat) => (bif ((((gt x0 (i0 : Int)).fKey) == x1.fKey) && (((gt x0 (i0 : Int)).fId) == x1.fId)) then (some true) else none)) (fun i0 hs2 hi2 => by
 have hbn : x0.length ≤ 9223372036854775807 := (by have := h_x0; first | (have := this.1; omega) | omega)
 simp only [spec_l1Signed.l0.eq_2]
 exact Evt_t2 (int_lt hi2) (StE.chk (by first | exact idx_ok (by omega) | exact idx_ok (by have hq := len_eq (by assumption); omega) | exact idx_found (show (0 : Int) ≤ (i0 : Int) by simp_all) | exact cut_ok (by omega) | exact or_ok (idx_ok (by omega)) | (refine or1 (fun hz => pre_ok (by simp at hz; omega) (by omega) (by omega))) | exact pre_ok (by omega) (by omega) (by omega) | (simp_all [idxOk, cutOk, leB]; done) | (simp_all [idxOk, cutOk, leB]; omega) | (simp [idxOk, cutOk, leB] at *; omega) | (have hf0 := h_x0.1; simp only [leB, decide_eq_true_eq, List.length_append, List.length_cons, List.length_nil]; omega)) (StE.ifh (fun hc1 => (StE.ret _)) (fun hc1 => StE.next)))) (fun j hj => by
 simp only [spec_l1Signed.l0.eq_2]
 exact Evt.f (ge_lt hj) (Evt.self _))) (fun _ => rfl) (Evt.self _))
def spec_l1Fault_v (x0 : Ledger) : Int := (bif ((decide (60 < (x0.fTexts.length : Int))) || (decide (120 < (x0.fSigns.length : Int)))) then 2 else (onO ((List.range' 0 (x0.fTexts.length - 0)).findSome? (fun (i0 : Nat) => (bif ((decide (((gt x0.fTexts (i0 : Int)).size : Int) < 1)) || (decide (300 < ((gt x0.fTexts (i0 : Int)).size : Int)))) then (some 2) else (bif (decide (0 < (spec_l1At_v (x0.fTexts.take ((i0 : Int)).toNat) (gt x0.fTexts (i0 : Int))))) then (some 7) else none)))) (fun r => r) (onO ((List.range' 0 (x0.fSigns.length - 0)).findSome? (fun (i3 : Nat) => (bif ((!(spec_l1Key_v ((gt x0.fSigns (i3 : Int)).fKey))) || (!(bif (!(!(spec_l1Key_v ((gt x0.fSigns (i3 : Int)).fKey)))) then (spec_l1In_v ((gt x0.fSigns (i3 : Int)).fId) 1 (x0.fTexts.length : Int)) else default))) then (some 3) else (bif (spec_l1Signed_v (x0.fSigns.take ((i3 : Int)).toNat) (gt x0.fSigns (i3 : Int))) then (some 7) else none)))) (fun r => r) 0)))
theorem spec_l1Fault_ev (x0 : Ledger) (h_x0 : smLedger x0) : Evt (fun k => spec_l1Fault.f k x0) (spec_l1Fault_v x0) :=
 (Evt.ifh (fun hc6 => (Evt.self _)) (fun hc6 => (Evt.loop (r' := fun r => r) (Evt.srch (L := (fun k i => spec_l1Fault.l0 x0 k i)) 0 x0.fTexts.length (by have := h_x0.1; first | (have := this.1; omega) | omega) (fun (i0 : Nat) => (bif ((decide (((gt x0.fTexts (i0 : Int)).size : Int) < 1)) || (decide (300 < ((gt x0.fTexts (i0 : Int)).size : Int)))) then (some 2) else (bif (decide (0 < (spec_l1At_v (x0.fTexts.take ((i0 : Int)).toNat) (gt x0.fTexts (i0 : Int))))) then (some 7) else none))) (fun i0 hs3 hi3 => by
 have hbn : x0.fTexts.length ≤ 9223372036854775807 := (by have := h_x0.1; first | (have := this.1; omega) | omega)
 simp only [spec_l1Fault.l0.eq_2]
 exact Evt_t2 (int_lt hi3) (StE.chk (by first | exact idx_ok (by omega) | exact idx_ok (by have hq := len_eq (by assumption); omega) | exact idx_found (show (0 : Int) ≤ (i0 : Int) by simp_all) | exact cut_ok (by omega) | exact or_ok (idx_ok (by omega)) | (refine or1 (fun hz => pre_ok (by simp at hz; omega) (by omega) (by omega))) | exact pre_ok (by omega) (by omega) (by omega) | (simp_all [idxOk, cutOk, leB]; done) | (simp_all [idxOk, cutOk, leB]; omega) | (simp [idxOk, cutOk, leB] at *; omega) | (have hf0 := h_x0.1.1; have hf1 := h_x0.2.1; simp only [leB, decide_eq_true_eq, List.length_append, List.length_cons, List.length_nil]; omega)) (StE.chk (by first | exact idx_ok (by omega) | exact idx_ok (by have hq := len_eq (by assumption); omega) | exact idx_found (by simp_all) | exact cut_ok (by omega) | exact or_ok (idx_ok (by omega)) | (refine or1 (fun hz => pre_ok (by simp at hz; omega) (by omega) (by omega))) | exact pre_ok (by omega) (by omega) (by omega) | (simp_all [idxOk, cutOk, leB]; done) | (simp_all [idxOk, cutOk, leB]; omega) | (simp [idxOk, cutOk, leB] at *; omega) | (have hf0 := h_x0.1.1; have hf1 := h_x0.2.1; simp only [leB, decide_eq_true_eq, List.length_append, List.length_cons, List.length_nil]; omega)) (StE.ifh (fun hc2 => (StE.ret _)) (fun hc2 => (StE.chk (by first | exact idx_ok (by omega) | exact idx_ok (by have hq := len_eq (by assumption); omega) | exact idx_found (by simp_all) | exact cut_ok (by omega) | exact or_ok (idx_ok (by omega)) | (refine or1 (fun hz => pre_ok (by simp at hz; omega) (by omega) (by omega))) | exact pre_ok (by omega) (by omega) (by omega) | (simp_all [idxOk, cutOk, leB]; done) | (simp_all [idxOk, cutOk, leB]; omega) | (simp [idxOk, cutOk, leB] at *; omega) | (have hf0 := h_x0.1.1; have hf1 := h_x0.2.1; simp only [leB, decide_eq_true_eq, List.length_append, List.length_cons, List.length_nil]; omega)) (StE.chk (by first | exact idx_ok (by omega) | exact idx_ok (by have hq := len_eq (by assumption); omega) | exact idx_found (show (0 : Int) ≤ (i0 : Int) by simp_all) | exact cut_ok (by omega) | exact or_ok (idx_ok (by omega)) | (refine or1 (fun hz => pre_ok (by simp at hz; omega) (by omega) (by omega))) | exact pre_ok (by omega) (by omega) (by omega) | (simp_all [idxOk, cutOk, leB]; done) | (simp_all [idxOk, cutOk, leB]; omega) | (simp [idxOk, cutOk, leB] at *; omega) | (have hf0 := h_x0.1.1; have hf1 := h_x0.2.1; simp only [leB, decide_eq_true_eq, List.length_append, List.length_cons, List.length_nil]; omega)) (StE.bind (spec_l1At_ev (x0.fTexts.take ((i0 : Int)).toNat) (gt x0.fTexts (i0 : Int)) ((Lm_take h_x0.1))) (StE.ifh (fun hc1 => (StE.ret _)) (fun hc1 => StE.next)))))))))) (fun j hj => by
 simp only [spec_l1Fault.l0.eq_2]
 exact Evt.f (ge_lt hj) (Evt.self _))) (fun _ => rfl) (Evt.loop (r' := fun r => r) (Evt.srch (L := (fun k i => spec_l1Fault.l1 x0 k i)) 0 x0.fSigns.length (by have := h_x0.2; first | (have := this.1; omega) | omega) (fun (i3 : Nat) => (bif ((!(spec_l1Key_v ((gt x0.fSigns (i3 : Int)).fKey))) || (!(bif (!(!(spec_l1Key_v ((gt x0.fSigns (i3 : Int)).fKey)))) then (spec_l1In_v ((gt x0.fSigns (i3 : Int)).fId) 1 (x0.fTexts.length : Int)) else default))) then (some 3) else (bif (spec_l1Signed_v (x0.fSigns.take ((i3 : Int)).toNat) (gt x0.fSigns (i3 : Int))) then (some 7) else none))) (fun i3 hs6 hi6 => by
 have hbn : x0.fSigns.length ≤ 9223372036854775807 := (by have := h_x0.2; first | (have := this.1; omega) | omega)
 simp only [spec_l1Fault.l1.eq_2]
 exact Evt_t2 (int_lt hi6) (StE.chk (by first | exact idx_ok (by omega) | exact idx_ok (by have hq := len_eq (by assumption); omega) | exact idx_found (show (0 : Int) ≤ (i3 : Int) by simp_all) | exact cut_ok (by omega) | exact or_ok (idx_ok (by omega)) | (refine or1 (fun hz => pre_ok (by simp at hz; omega) (by omega) (by omega))) | exact pre_ok (by omega) (by omega) (by omega) | (simp_all [idxOk, cutOk, leB]; done) | (simp_all [idxOk, cutOk, leB]; omega) | (simp [idxOk, cutOk, leB] at *; omega) | (have hf0 := h_x0.1.1; have hf1 := h_x0.2.1; simp only [leB, decide_eq_true_eq, List.length_append, List.length_cons, List.length_nil]; omega)) (StE.bind (spec_l1Key_ev ((gt x0.fSigns (i3 : Int)).fKey)) (StE.chk (by first | exact idx_ok (by omega) | exact idx_ok (by have hq := len_eq (by assumption); omega) | exact idx_found (by simp_all) | exact cut_ok (by omega) | exact or_ok (idx_ok (by omega)) | (refine or1 (fun hz => pre_ok (by simp at hz; omega) (by omega) (by omega))) | exact pre_ok (by omega) (by omega) (by omega) | (simp_all [idxOk, cutOk, leB]; done) | (simp_all [idxOk, cutOk, leB]; omega) | (simp [idxOk, cutOk, leB] at *; omega) | (have hf0 := h_x0.1.1; have hf1 := h_x0.2.1; simp only [leB, decide_eq_true_eq, List.length_append, List.length_cons, List.length_nil]; omega)) (StE.bind (Evt.ifh (fun _ => (spec_l1In_ev ((gt x0.fSigns (i3 : Int)).fId) 1 (x0.fTexts.length : Int))) (fun _ => Evt.self _)) (StE.ifh (fun hc5 => (StE.ret _)) (fun hc5 => (StE.chk (by first | exact idx_ok (by omega) | exact idx_ok (by have hq := len_eq (by assumption); omega) | exact idx_found (by simp_all) | exact cut_ok (by omega) | exact or_ok (idx_ok (by omega)) | (refine or1 (fun hz => pre_ok (by simp at hz; omega) (by omega) (by omega))) | exact pre_ok (by omega) (by omega) (by omega) | (simp_all [idxOk, cutOk, leB]; done) | (simp_all [idxOk, cutOk, leB]; omega) | (simp [idxOk, cutOk, leB] at *; omega) | (have hf0 := h_x0.1.1; have hf1 := h_x0.2.1; simp only [leB, decide_eq_true_eq, List.length_append, List.length_cons, List.length_nil]; omega)) (StE.chk (by first | exact idx_ok (by omega) | exact idx_ok (by have hq := len_eq (by assumption); omega) | exact idx_found (show (0 : Int) ≤ (i3 : Int) by simp_all) | exact cut_ok (by omega) | exact or_ok (idx_ok (by omega)) | (refine or1 (fun hz => pre_ok (by simp at hz; omega) (by omega) (by omega))) | exact pre_ok (by omega) (by omega) (by omega) | (simp_all [idxOk, cutOk, leB]; done) | (simp_all [idxOk, cutOk, leB]; omega) | (simp [idxOk, cutOk, leB] at *; omega) | (have hf0 := h_x0.1.1; have hf1 := h_x0.2.1; simp only [leB, decide_eq_true_eq, List.length_append, List.length_cons, List.length_nil]; omega)) (StE.bind (spec_l1Signed_ev (x0.fSigns.take ((i3 : Int)).toNat) (gt x0.fSigns (i3 : Int)) ((Lm_take h_x0.2))) (StE.ifh (fun hc4 => (StE.ret _)) (fun hc4 => StE.next)))))))))))) (fun j hj => by
 simp only [spec_l1Fault.l1.eq_2]
 exact Evt.f (ge_lt hj) (Evt.self _))) (fun _ => rfl) (Evt.self _)))))
def spec_l1Copy_v (x0 : Ledger) : Ledger := (⟨([] : List ByteArray) ++ x0.fTexts, ([] : List Sign) ++ x0.fSigns⟩ : Ledger)
theorem spec_l1Copy_ev (x0 : Ledger) (h_x0 : smLedger x0) : Evt (fun k => spec_l1Copy.f k x0) (spec_l1Copy_v x0) :=
 (Evt.chk (by first | exact idx_ok (by omega) | exact idx_ok (by have hq := len_eq (by assumption); omega) | exact idx_found (by simp_all) | exact cut_ok (by omega) | exact or_ok (idx_ok (by omega)) | (refine or1 (fun hz => pre_ok (by simp at hz; omega) (by omega) (by omega))) | exact pre_ok (by omega) (by omega) (by omega) | (simp_all [idxOk, cutOk, leB]; done) | (simp_all [idxOk, cutOk, leB]; omega) | (simp [idxOk, cutOk, leB] at *; omega) | (have hf0 := h_x0.1.1; have hf1 := h_x0.2.1; simp only [leB, decide_eq_true_eq, List.length_append, List.length_cons, List.length_nil]; omega)) (Evt.chk (by first | exact idx_ok (by omega) | exact idx_ok (by have hq := len_eq (by assumption); omega) | exact idx_found (by simp_all) | exact cut_ok (by omega) | exact or_ok (idx_ok (by omega)) | (refine or1 (fun hz => pre_ok (by simp at hz; omega) (by omega) (by omega))) | exact pre_ok (by omega) (by omega) (by omega) | (simp_all [idxOk, cutOk, leB]; done) | (simp_all [idxOk, cutOk, leB]; omega) | (simp [idxOk, cutOk, leB] at *; omega) | (have hf0 := h_x0.1.1; have hf1 := h_x0.2.1; simp only [leB, decide_eq_true_eq, List.length_append, List.length_cons, List.length_nil]; omega)) (Evt.self _)))
def spec_NoteText_v (x0 : Ledger) (x1 : ByteArray) : LedgerResult := (bif ((spec_l1Fault_v x0) != 0) then (⟨(spec_l1Fault_v x0), 0, (⟨([] : List ByteArray), ([] : List Sign)⟩ : Ledger)⟩ : LedgerResult) else (bif ((decide ((x1.size : Int) < 1)) || (decide (300 < (x1.size : Int)))) then (⟨2, 0, (⟨([] : List ByteArray), ([] : List Sign)⟩ : Ledger)⟩ : LedgerResult) else (bif (decide (0 < (spec_l1At_v x0.fTexts x1))) then (⟨0, (spec_l1At_v x0.fTexts x1), (spec_l1Copy_v x0)⟩ : LedgerResult) else (bif (decide (60 ≤ (x0.fTexts.length : Int))) then (⟨2, 0, (⟨([] : List ByteArray), ([] : List Sign)⟩ : Ledger)⟩ : LedgerResult) else (⟨0, (((spec_l1Copy_v x0).fTexts ++ ([x1] : List ByteArray)).length : Int), (⟨(spec_l1Copy_v x0).fTexts ++ ([x1] : List ByteArray), (spec_l1Copy_v x0).fSigns⟩ : Ledger)⟩ : LedgerResult)))))
theorem spec_NoteText_ev (x0 : Ledger) (x1 : ByteArray) (h_x0 : smLedger x0) : Evt (fun k => spec_NoteText.f k x0 x1) (spec_NoteText_v x0 x1) :=
 (Evt.bind (spec_l1Fault_ev x0 (h_x0)) (Evt.ifh (fun hc3 => (Evt.self _)) (fun hc3 => (Evt.ifh (fun hc2 => (Evt.self _)) (fun hc2 => (Evt.bind (spec_l1Copy_ev x0 (h_x0)) (Evt.bind (spec_l1At_ev x0.fTexts x1 (h_x0.1)) (Evt.ifh (fun hc1 => (Evt.self _)) (fun hc1 => (Evt.ifh (fun hc0 => (Evt.self _)) (fun hc0 => (Evt.chk (by first | exact idx_ok (by omega) | exact idx_ok (by have hq := len_eq (by assumption); omega) | exact idx_found (by simp_all) | exact cut_ok (by omega) | exact or_ok (idx_ok (by omega)) | (refine or1 (fun hz => pre_ok (by simp at hz; omega) (by omega) (by omega))) | exact pre_ok (by omega) (by omega) (by omega) | (simp_all [idxOk, cutOk, leB]; done) | (simp_all [idxOk, cutOk, leB]; omega) | (simp [idxOk, cutOk, leB] at *; omega) | (refine decide_eq_true ?_; have h1 := h_x0.1.1; simp only [spec_l1Copy_v, List.nil_append, List.length_cons, List.length_nil]; omega) | (have hf0 := h_x0.1.1; have hf1 := h_x0.2.1; simp only [leB, decide_eq_true_eq, List.length_append, List.length_cons, List.length_nil]; omega)) (Evt.self _)))))))))))))
theorem spec_l2Digits_ev (n : Int) (h0 : 0 ≤ n) (h1 : n ≤ 1000000) : Evt (fun k => spec_l2Digits.f k n) (mkB (dgL n)) := by
 have key : ∀ u : Nat, u ≤ 1000000 → Evt (fun k => spec_l2Digits.f k (u : Int)) (mkB (Lib.decDigits u)) := by
  intro u
  induction u using Nat.strongRecOn with
  | _ u ih =>
   intro hu
   refine Evt.s ?_
   simp only [spec_l2Digits.f_s]
   by_cases h : u < 10
   ·have e1 : IntKind.u8.wrap (wrap64 (48 + (u : Int))) = ((48 + u : Nat) : Int) := by rw [wrap64_in _ (by omega), u8_in _ (by omega)]; omega
    rw [e1, Lib.decDigits, dif_pos h]
    exact Evt.t (by simp; omega) (Evt.self _)
   ·have e1 : IntKind.i64.wrap (Int.tdiv (u : Int) 10) = ((u / 10 : Nat) : Int) := by rw [i64_quo _ _ ⟨by omega, by omega, by omega⟩]; omega
    have e0 : Int.tmod (u : Int) 10 = ((u % 10 : Nat) : Int) := by rw [rem_in _ _ (by omega)]; omega
    have e2 : IntKind.u8.wrap (wrap64 (48 + (Int.tmod (u : Int) 10))) = ((48 + u % 10 : Nat) : Int) := by rw [e0, wrap64_in _ (by omega), u8_in _ (by omega)]; omega
    have hl' : (Lib.decDigits (u / 10)).length ≤ u / 10 + 1 := by
     have hl := dgL_len ((u / 10 : Nat) : Int) (u / 10) (Int.toNat_natCast _)
     unfold dgL at hl
     rw [Int.toNat_natCast] at hl
     exact hl
    refine Evt.f (by simp; omega) (Evt.chk rfl (Evt.chk rfl ?_))
    rw [e1, e2]
    have e3 : strOfNums ([((48 + u % 10 : Nat) : Int)] : List Int) = mkB [UInt8.ofNat (48 + u % 10)] := rfl
    refine (Evt.bind (ih (u / 10) (by omega) (by omega)) (Evt.chk ?_ (Evt.self _))).to ?_
    ·refine decide_eq_true ?_
     rw [mkB_size, e3, mkB_size]; simp; omega
    ·rw [e3, mkB_append, Lib.decDigits.eq_1 u, dif_neg h]
 have := key n.toNat (by omega)
 rw [Int.toNat_of_nonneg h0] at this
 exact this
theorem spec_l2Text_loop (r : Rule) (hk : ∀ x ∈ r.fKeys, 1 ≤ x ∧ x ≤ 999) (hn : r.fKeys.length ≤ 3) : ∀ (d i : Nat) (acc : List UInt8), i + d = r.fKeys.length → acc.length + 1100 * d ≤ 100000 → Evt (fun k => spec_l2Text.l0 r k (mkB acc) (i : Int)) (mkB (acc ++ Lib.joinTail [44] ((r.fKeys.drop i).map dgL)))
 | 0, i, acc, hi, hl => by
  rw [List.drop_of_length_le (by omega)]
  refine Evt.s ?_
  simp only [spec_l2Text.l0.eq_2]
  exact Evt.f (ge_lt (by omega)) (Evt.ret (by simp [Lib.joinTail]))
 | d + 1, i, acc, hi, hl => by
  have hlt : i < r.fKeys.length := by omega
  have hx := hk _ (gt_mem hlt)
  have hd := dg3 (gt r.fKeys (i : Int)) (by omega) hx.2
  have c2 : (⟨#[44]⟩ : ByteArray) = mkB [44] := rfl
  have hg : gt r.fKeys (i : Int) = r.fKeys[i] := gt_eq (by simpa using hlt)
  refine Evt.s ?_
  simp only [spec_l2Text.l0.eq_2, c2, mkB_append, mkB_size, List.length_append, List.length_cons, List.length_nil]
  refine Evt.t (int_lt hlt) (Evt.chk (leB_mk (by omega)) (Evt.chk (idx_ok hlt) (Evt.bind (spec_l2Digits_ev (gt r.fKeys (i : Int)) (by omega) (by omega)) ?_)))
  simp only [mkB_append, mkB_size, List.length_append, List.length_cons, List.length_nil]
  refine Evt.chk (leB_mk (by omega)) ?_
  rw [w64 hlt (by omega)]
  refine (spec_l2Text_loop r hk hn d (i + 1) _ (by omega) (by simp only [List.length_append, List.length_cons, List.length_nil]; omega)).to ?_
  have ed : r.fKeys.drop i = r.fKeys[i] :: r.fKeys.drop (i + 1) := List.drop_eq_getElem_cons hlt
  rw [ed, hg, List.map_cons]
  unfold Lib.joinTail
  rw [List.map_cons, List.flatten_cons]
  simp only [List.append_assoc, List.cons_append, List.nil_append]
def spec_l2Text_v (r : Rule) : ByteArray := mkB (ruleL r [32])
theorem spec_l2Text_ev (r : Rule) (hr0 : smRule r) (hpre : (spec_l2Fault_v r != 0) = false) : Evt (fun k => spec_l2Text.f k r) (spec_l2Text_v r) := by
 have hr := rule_ok r hpre
 have hd := dg3 r.fNeed (by have := hr.need; omega) (by have := hr.need; omega)
 have hf := dg3 r.fAfter hr.after.1 hr.after.2
 have hlt : 0 < r.fKeys.length := hr.n1
 have hx := hr.key _ (gt_mem hlt)
 have hk0 := dg3 (gt r.fKeys ((0 : Nat) : Int)) (by omega) hx.2
 have hj := join3 r.fKeys hr.n1 hr.n3 hr.key
 have c1 : (⟨#[32, 111, 102, 32]⟩ : ByteArray) = mkB [32, 111, 102, 32] := rfl
 have c2 : (⟨#[32, 97, 102, 116, 101, 114, 32]⟩ : ByteArray) = mkB [32, 97, 102, 116, 101, 114, 32] := rfl
 have hg : gt r.fKeys ((0 : Nat) : Int) = r.fKeys[0] := gt_eq (by simpa using hlt)
 have ejoin : Lib.join (r.fKeys.map dgL) [44] = dgL (gt r.fKeys ((0 : Nat) : Int)) ++ Lib.joinTail [44] ((r.fKeys.drop 1).map dgL) := by
  have : r.fKeys = r.fKeys[0] :: r.fKeys.drop 1 := by
   have := List.drop_eq_getElem_cons hlt
   simpa using this
  rw [hg]
  conv => lhs; rw [this]
  rw [List.map_cons, Lib.join_cons]
 unfold spec_l2Text.f
 simp only [c1, c2]
 refine Evt.chk (idx_ok hlt) (Evt.bind (spec_l2Digits_ev r.fNeed (by have := hr.need; omega) (by have := hr.need; omega)) ?_)
 simp only [mkB_append, mkB_size, List.length_append, List.length_cons, List.length_nil]
 refine Evt.chk (leB_mk (by omega)) (Evt.bind (spec_l2Digits_ev (gt r.fKeys ((0 : Nat) : Int)) (by omega) (by omega)) ?_)
 simp only [mkB_append, mkB_size, List.length_append, List.length_cons, List.length_nil]
 refine Evt.chk (leB_mk (by omega)) (Evt.bind (spec_l2Text_loop r hr.key hr.n3 (r.fKeys.length - 1) 1 _ (by omega) (by have := hr.n3; simp only [List.length_append, List.length_cons, List.length_nil]; omega)) ?_)
 have hl2 : (dgL (gt r.fKeys ((0 : Nat) : Int))).length + (Lib.joinTail [44] ((r.fKeys.drop 1).map dgL)).length ≤ 3100 := by
  rw [ejoin, List.length_append] at hj; exact hj
 unfold spec_l2Text_v ruleL
 rw [ejoin]
 cases ha : r.fAfter != 0
 ·refine Evt.f rfl (Evt.ret ?_)
  simp [List.append_assoc]
 ·simp only [mkB_append, mkB_size, List.length_append, List.length_cons, List.length_nil]
  refine Evt.t rfl (Evt.chk (leB_mk (by omega)) (Evt.bind (spec_l2Digits_ev r.fAfter hr.after.1 (by have := hr.after.2; omega)) ?_))
  simp only [mkB_append, mkB_size, List.length_append, List.length_cons, List.length_nil]
  refine Evt.chk (leB_mk (by omega)) (Evt.ret ?_)
  simp [List.append_assoc]
def swB (b : UInt8) : UInt8 := if b = 32 then 95 else b
def swG (a c b : UInt8) : UInt8 := if b = a then c else b
def swI (a c n : Int) : Int := bif n == a then c else n
theorem swap_loop (a c : Int) (xs : List Int) (hn : xs.length ≤ 1048576) : ∀ (d i : Nat) (acc : List Int), i + d = xs.length → acc = (xs.take i).map (swI a c) ++ xs.drop i → Evt (fun k => spec_l3Swap.l0 a c k acc (i : Int)) (xs.map (swI a c))
 | 0, i, acc, hi, ha => by
  have e1 : xs.drop i = [] := List.drop_of_length_le (by omega)
  have e2 : xs.take i = xs := List.take_of_length_le (by omega)
  rw [e1, e2, List.append_nil] at ha
  subst ha
  refine Evt.s ?_
  simp only [spec_l3Swap.l0.eq_2, List.length_map]
  exact Evt.f (ge_lt (by omega)) (Evt.self _)
 | d + 1, i, acc, hi, ha => by
  have hlt : i < xs.length := by omega
  have ed : xs.drop i = xs[i] :: xs.drop (i + 1) := List.drop_eq_getElem_cons hlt
  have et : xs.take (i + 1) = xs.take i ++ [xs[i]] := List.take_succ_eq_append_getElem hlt
  have hl : acc.length = xs.length := by rw [ha, List.length_append, List.length_map, List.length_take, List.length_drop]; omega
  have hlm : ((xs.take i).map (swI a c)).length = i := by rw [List.length_map, List.length_take]; omega
  have hg : gt acc (i : Int) = xs[i] := by
   rw [gt_eq (by rw [hl]; simpa using hlt)]
   simp only [Int.toNat_natCast]
   have : acc[i]? = some xs[i] := by rw [ha, List.getElem?_append_right (by omega), hlm, Nat.sub_self, ed]; rfl
   rw [List.getElem?_eq_getElem (by omega)] at this
   exact Option.some.inj this
  refine Evt.s ?_
  simp only [spec_l3Swap.l0.eq_2, hl, hg]
  refine Evt.t (int_lt hlt) (Evt.chk (idx_ok hlt) ?_)
  rw [w64 hlt (by omega)]
  cases hz : xs[i] == a
  ·refine Evt.f rfl (swap_loop a c xs hn d (i + 1) acc (by omega) ?_)
   have e : swI a c xs[i] = xs[i] := by unfold swI; rw [hz]; rfl
   rw [ha, et, ed, List.map_append, List.map_cons, List.map_nil, e]; simp
  ·refine Evt.t rfl (Evt.chk (idx_ok hlt) (swap_loop a c xs hn d (i + 1) _ (by omega) ?_))
   have e : swI a c xs[i] = c := by unfold swI; rw [hz]; rfl
   simp only [Int.toNat_natCast]
   rw [ha, et, ed, List.map_append, List.map_cons, List.map_nil, e]
   rw [List.set_append, if_neg (by omega), hlm, Nat.sub_self, List.set_cons_zero]; simp
theorem swG_I (a c b : UInt8) : UInt8.ofNat (swI (a.toNat : Int) (c.toNat : Int) (b.toNat : Int)).toNat = swG a c b := by
 unfold swI swG
 by_cases h : b = a
 ·subst h
  rw [if_pos rfl, beq_self_eq_true]
  show UInt8.ofNat (c.toNat : Int).toNat = c
  rw [Int.toNat_natCast, UInt8.ofNat_toNat]
 ·have : ((b.toNat : Int) == (a.toNat : Int)) = false := by
   have h2 : b.toNat ≠ a.toNat := fun e => h (UInt8.toNat_inj.1 e)
   simp; omega
  rw [this, if_neg h]
  show UInt8.ofNat (b.toNat : Int).toNat = b
  rw [Int.toNat_natCast, UInt8.ofNat_toNat]
theorem swapG_ev (a c : UInt8) (l : List UInt8) (hn : l.length ≤ 1048576) : Evt (fun k => spec_l3Swap.f k (mkB l) (a.toNat : Int) (c.toNat : Int)) (mkB (l.map (swG a c))) := by
 have hs : strNums (mkB l) = l.map fun b => (b.toNat : Int) := by simp [strNums, mkB]
 unfold spec_l3Swap.f
 rw [hs]
 refine Evt.bind (swap_loop _ _ (l.map fun b => (b.toNat : Int)) (by rw [List.length_map]; exact hn) _ 0 _ (Nat.zero_add _) (by simp)) (Evt.ret ?_)
 show mkB ((List.map (swI (a.toNat : Int) (c.toNat : Int)) (l.map fun b => (b.toNat : Int))).map fun n => UInt8.ofNat n.toNat) = _
 rw [List.map_map, List.map_map]
 congr 1
 refine List.map_congr_left fun b _ => ?_
 exact swG_I a c b
theorem swap_ev (l : List UInt8) (hn : l.length ≤ 1048576) : Evt (fun k => spec_l3Swap.f k (mkB l) 32 95) (mkB (l.map swB)) := swapG_ev 32 95 l hn
theorem sw_id {l : List UInt8} (h : (32 : UInt8) ∉ l) : l.map swB = l := by
 conv => rhs; rw [← List.map_id l]
 refine List.map_congr_left fun b hb => ?_
 unfold swB
 rw [if_neg (fun e : b = 32 => h (by rw [← e]; exact hb))]; rfl
theorem sw_rule (r : Rule) : (ruleL r [32]).map swB = ruleL r [95] := by
 have hd : ∀ n : Int, (dgL n).map swB = dgL n := fun n => sw_id (dg_no nodg n)
 have hj : (Lib.join (r.fKeys.map dgL) [44]).map swB = Lib.join (r.fKeys.map dgL) [44] := sw_id fun h => by
  rcases mem_join h with h | ⟨p, hp, h⟩
  ·exact absurd h (by decide)
  ·obtain ⟨x, _, rfl⟩ := List.mem_map.1 hp
   exact dg_no nodg _ h
 have h1 : [32].map swB = [95] := rfl
 have h2 : [111, 102].map swB = [111, 102] := rfl
 have h3 : [97, 102, 116, 101, 114].map swB = [97, 102, 116, 101, 114] := rfl
 unfold ruleL
 cases r.fAfter != 0
 ·simp only [cond_false, List.map_append, hd, hj, h1, h2, List.map_nil]
 ·simp only [cond_true, List.map_append, hd, hj, h1, h2, h3]
theorem l3Text_ins (t : Tx) (ht : TxOK t) (i : Nat) (acc sep : List UInt8) (hlt : i < t.fIns.length) (hs : sep.length = 1) (hl : acc.length ≤ 100000) (hz : (bif ((i : Int) == 0) then some (⟨#[32]⟩ : ByteArray) else some (⟨#[43]⟩ : ByteArray)) = some (mkB sep)) {r : ByteArray}
  (h : Evt (fun k => spec_l3Text.l0 t k (mkB (acc ++ sep ++ refL t.fIns[i])) ((i + 1 : Nat) : Int)) r) : Evt (fun k => spec_l3Text.l0 t k (mkB acc) (i : Int)) r := by
 have hx := ht.ins _ (List.getElem_mem hlt)
 have hg : gt t.fIns (i : Int) = t.fIns[i] := gt_eq (by simpa using hlt)
 have hd1 := dg_l2 (n := t.fIns[i].fTx) (by omega)
 have hd2 := dg_l1 (n := t.fIns[i].fAt) (by omega)
 have c58 : (⟨#[58]⟩ : ByteArray) = mkB [58] := rfl
 refine Evt.s ?_
 simp only [spec_l3Text.l0.eq_2, hz, Option.bind_some, mkB_size, hg, c58]
 refine Evt.t (int_lt hlt) (Evt.chk (leB_mk (by omega)) (Evt.chk (idx_ok hlt) (Evt.chk (idx_ok hlt) (Evt.bind (spec_l2Digits_ev t.fIns[i].fTx (by omega) (by omega)) ?_))))
 simp only [mkB_append, mkB_size, List.length_append, List.length_cons, List.length_nil]
 refine Evt.chk (leB_mk (by omega)) (Evt.chk (leB_mk (by omega)) (Evt.bind (spec_l2Digits_ev t.fIns[i].fAt (by omega) (by omega)) ?_))
 simp only [mkB_append, mkB_size, List.length_append, List.length_cons, List.length_nil]
 refine Evt.chk (leB_mk (by omega)) ?_
 rw [w64 hlt (by have := ht.ins4; omega)]
 have e : acc ++ sep ++ dgL t.fIns[i].fTx ++ [58] ++ dgL t.fIns[i].fAt = acc ++ sep ++ refL t.fIns[i] := by unfold refL; simp [List.append_assoc]
 rw [e]; exact h
theorem l3Text_l0 (t : Tx) (ht : TxOK t) : ∀ (d i : Nat) (acc : List UInt8), 1 ≤ i → i + d = t.fIns.length → acc.length + 10 * d ≤ 90000 → Evt (fun k => spec_l3Text.l0 t k (mkB acc) (i : Int)) (mkB (acc ++ Lib.joinTail [43] ((t.fIns.drop i).map refL)))
 | 0, i, acc, h1, hi, hl => by
  rw [List.drop_of_length_le (by omega)]
  refine Evt.s ?_
  simp only [spec_l3Text.l0.eq_2]
  exact Evt.f (ge_lt (by omega)) (Evt.ret (by simp [Lib.joinTail]))
 | d + 1, i, acc, h1, hi, hl => by
  have hlt : i < t.fIns.length := by omega
  have hx := refL_len (ht.ins _ (List.getElem_mem hlt))
  have hz : ((i : Int) == 0) = false := by simp; omega
  refine l3Text_ins t ht i acc [43] hlt rfl (by omega) (by rw [hz]; rfl) ?_
  refine (l3Text_l0 t ht d (i + 1) _ (by omega) (by omega) (by simp only [List.length_append, List.length_cons, List.length_nil]; omega)).to ?_
  have ed : t.fIns.drop i = t.fIns[i] :: t.fIns.drop (i + 1) := List.drop_eq_getElem_cons hlt
  rw [ed, List.map_cons]
  unfold Lib.joinTail
  rw [List.map_cons, List.flatten_cons]
  simp only [List.append_assoc, List.cons_append, List.nil_append]
theorem l3Text_l1 (t : Tx) (h_t : smTx t) (ht : TxOK t) : ∀ (d i : Nat) (acc : List UInt8), i + d = t.fOuts.length → acc.length + 100 * d ≤ 90000 → Evt (fun k => spec_l3Text.l1 t k (mkB acc) (i : Int)) (mkB (acc ++ Lib.joinTail [32] ((t.fOuts.drop i).map outL)))
 | 0, i, acc, hi, hl => by
  rw [List.drop_of_length_le (by omega)]
  refine Evt.s ?_
  simp only [spec_l3Text.l1.eq_2]
  exact Evt.f (ge_lt (by omega)) (Evt.ret (by simp [Lib.joinTail]))
 | d + 1, i, acc, hi, hl => by
  have hlt : i < t.fOuts.length := by omega
  have hx := ht.outs _ (List.getElem_mem hlt)
  have hol := outL_len hx
  have hg : gt t.fOuts (i : Int) = t.fOuts[i] := gt_eq (by simpa using hlt)
  have hr := rule_ok t.fOuts[i].fRule (by rw [hx.2]; rfl)
  have hd1 := dg_l7 (n := t.fOuts[i].fValue) (by omega)
  have hrl := ruleL_len t.fOuts[i].fRule 32 hr
  have c1 : (⟨#[32]⟩ : ByteArray) = mkB [32] := rfl
  have c2 : (⟨#[61]⟩ : ByteArray) = mkB [61] := rfl
  have hsw := swap_ev (ruleL t.fOuts[i].fRule [32]) (by omega)
  rw [sw_rule] at hsw
  have hrl2 := ruleL_len t.fOuts[i].fRule 95 hr
  refine Evt.s ?_
  simp only [spec_l3Text.l1.eq_2, hg, c1, c2, mkB_append, mkB_size, List.length_append, List.length_cons, List.length_nil]
  refine Evt.t (int_lt hlt) (Evt.chk (leB_mk (by omega)) (Evt.chk (idx_ok hlt) (Evt.chk (idx_ok hlt) (Evt.bind (spec_l2Digits_ev t.fOuts[i].fValue (by omega) (by omega)) ?_))))
  simp only [mkB_append, mkB_size, List.length_append, List.length_cons, List.length_nil]
  refine Evt.chk (leB_mk (by omega)) (Evt.chk (leB_mk (by omega)) (Evt.bind (spec_l2Text_ev t.fOuts[i].fRule (h_t.2.2.2.2 _ (List.getElem_mem hlt)).2 (by rw [hx.2]; rfl)) (Evt.bind hsw ?_)))
  simp only [mkB_append, mkB_size, List.length_append, List.length_cons, List.length_nil]
  refine Evt.chk (leB_mk (by omega)) ?_
  rw [w64 hlt (by have := ht.outs4; omega)]
  refine (l3Text_l1 t h_t ht d (i + 1) _ (by omega) (by simp only [List.length_append, List.length_cons, List.length_nil]; omega)).to ?_
  have ed : t.fOuts.drop i = t.fOuts[i] :: t.fOuts.drop (i + 1) := List.drop_eq_getElem_cons hlt
  rw [ed, List.map_cons]
  unfold Lib.joinTail
  rw [List.map_cons, List.flatten_cons]
  unfold outL
  simp only [List.append_assoc, List.cons_append, List.nil_append]
def spec_l3Text_v (t : Tx) : ByteArray := mkB (txL t)
theorem spec_l3Text_ok (t : Tx) (h_t : smTx t) (ht : TxOK t) : Evt (fun k => spec_l3Text.f k t) (spec_l3Text_v t) := by
 have c0 : (⟨#[112, 97, 121]⟩ : ByteArray) = mkB [112, 97, 121] := rfl
 have c1 : (⟨#[106, 111, 105, 110, 32]⟩ : ByteArray) = mkB [106, 111, 105, 110, 32] := rfl
 have c2 : (⟨#[108, 101, 97, 118, 101, 32]⟩ : ByteArray) = mkB [108, 101, 97, 118, 101, 32] := rfl
 have hlt : 0 < t.fIns.length := ht.ins1
 have hins4 := ht.ins4
 have houts4 := ht.outs4
 have hx := refL_len (ht.ins _ (List.getElem_mem hlt))
 have hk := ht.kind
 -- what stands ahead
 have key : ∃ a : List UInt8, a.length ≤ 20 ∧ a = (bif t.fKind != 0 then kindW t.fKind ++ [32] ++ dgL t.fMember else kindW t.fKind) ∧ Evt (fun k => (bif (t.fKind != 0) then ((spec_l2Digits.f k t.fMember).bind fun t1698 => (Zk.chk (leB ((gt ([mkB [112, 97, 121], mkB [106, 111, 105, 110, 32], mkB [108, 101, 97, 118, 101, 32]] : List ByteArray) t.fKind).size + t1698.size) 9223372036854775807) (some ((gt ([mkB [112, 97, 121], mkB [106, 111, 105, 110, 32], mkB [108, 101, 97, 118, 101, 32]] : List ByteArray) t.fKind) ++ t1698)))) else some (gt ([mkB [112, 97, 121], mkB [106, 111, 105, 110, 32], mkB [108, 101, 97, 118, 101, 32]] : List ByteArray) t.fKind))) (mkB a) := by
  have h3 : t.fKind = 0 ∨ t.fKind = 1 ∨ t.fKind = 2 := by omega
  rcases h3 with h | h | h
  ·refine ⟨[112, 97, 121], by simp, by rw [h]; rfl, ?_⟩
   rw [h]
   exact Evt.f rfl (Evt.self _)
  ·have hm := ht.mem (by omega)
   have hd := dg_l3 (n := t.fMember) (by omega)
   refine ⟨[106, 111, 105, 110, 32] ++ dgL t.fMember, by simp; omega, by rw [h]; simp [kindW], ?_⟩
   rw [h]
   refine Evt.t rfl (Evt.bind (spec_l2Digits_ev t.fMember (by omega) (by omega)) ?_)
   show Evt (fun k => Zk.chk (leB ((mkB [106, 111, 105, 110, 32]).size + (mkB (dgL t.fMember)).size) 9223372036854775807) (some (mkB [106, 111, 105, 110, 32] ++ mkB (dgL t.fMember)))) _
   simp only [mkB_append, mkB_size]
   exact Evt.chk (leB_mk (by simp; omega)) (Evt.self _)
  ·have hm := ht.mem (by omega)
   have hd := dg_l3 (n := t.fMember) (by omega)
   refine ⟨[108, 101, 97, 118, 101, 32] ++ dgL t.fMember, by simp; omega, by rw [h]; simp [kindW], ?_⟩
   rw [h]
   refine Evt.t rfl (Evt.bind (spec_l2Digits_ev t.fMember (by omega) (by omega)) ?_)
   show Evt (fun k => Zk.chk (leB ((mkB [108, 101, 97, 118, 101, 32]).size + (mkB (dgL t.fMember)).size) 9223372036854775807) (some (mkB [108, 101, 97, 118, 101, 32] ++ mkB (dgL t.fMember)))) _
   simp only [mkB_append, mkB_size]
   exact Evt.chk (leB_mk (by simp; omega)) (Evt.self _)
 obtain ⟨a, hal, hae, he⟩ := key
 have hj := ins_len ht
 have ed : t.fIns = t.fIns[0] :: t.fIns.drop 1 := by simpa using List.drop_eq_getElem_cons hlt
 have ej : Lib.join (t.fIns.map refL) [43] = refL t.fIns[0] ++ Lib.joinTail [43] ((t.fIns.drop 1).map refL) := by
  conv => lhs; rw [ed]
  rw [List.map_cons, Lib.join_cons]
 have e0 := l3Text_ins t ht 0 a [32] hlt rfl (by omega) rfl (l3Text_l0 t ht (t.fIns.length - 1) 1 _ (by omega) (by omega) (by simp only [List.length_append, List.length_cons, List.length_nil]; omega))
 rw [List.append_assoc, ← ej] at e0
 have e1 := l3Text_l1 t h_t ht t.fOuts.length 0 (a ++ [32] ++ Lib.join (t.fIns.map refL) [43]) (by omega) (by simp only [List.length_append, List.length_cons, List.length_nil]; omega)
 unfold spec_l3Text.f
 simp only [c0, c1, c2]
 have hik : idxOk t.fKind ([mkB [112, 97, 121], mkB [106, 111, 105, 110, 32], mkB [108, 101, 97, 118, 101, 32]] : List ByteArray).length = true := by unfold idxOk; simp; omega
 refine Evt.chk hik (Evt.bind he (Evt.bind e0 (Evt.bind e1 (Evt.ret ?_))))
 unfold spec_l3Text_v
 rw [txL_eq, ← hae, List.drop_zero]
theorem spec_l3Text_ev (t : Tx) (h_t : smTx t) (hpre : (spec_l3Fault_v t != 0) = false) : Evt (fun k => spec_l3Text.f k t) (spec_l3Text_v t) := spec_l3Text_ok t h_t (tx_ok t hpre)
def spec_TxText_v (x0 : Tx) : TextResult := (bif ((spec_l3Fault_v x0) != 0) then (⟨(spec_l3Fault_v x0), (⟨#[]⟩ : ByteArray)⟩ : TextResult) else (bif (decide (300 < ((spec_l3Text_v x0).size : Int))) then (⟨2, (⟨#[]⟩ : ByteArray)⟩ : TextResult) else (⟨0, (spec_l3Text_v x0)⟩ : TextResult)))
theorem spec_TxText_ev (x0 : Tx) (h_x0 : smTx x0) : Evt (fun k => spec_TxText.f k x0) (spec_TxText_v x0) :=
 (Evt.bind (spec_l3Fault_ev x0 (h_x0)) (Evt.ifh (fun hc1 => (Evt.self _)) (fun hc1 => (Evt.bind (spec_l3Text_ev x0 (h_x0) (by first | assumption | (simp_all; omega) | (have hf0 := h_x0.2.2.1.1; have hf1 := h_x0.2.2.2.1; simp only [leB, decide_eq_true_eq, List.length_append, List.length_cons, List.length_nil]; omega))) (Evt.ifh (fun hc0 => (Evt.self _)) (fun hc0 => (Evt.self _)))))))
def spec_l1Id_v (x0 : Ledger) (x1 : Int) : Bool := (spec_l1In_v x1 1 (x0.fTexts.length : Int))
theorem spec_l1Id_ev (x0 : Ledger) (x1 : Int) (h_x0 : smLedger x0) : Evt (fun k => spec_l1Id.f k x0 x1) (spec_l1Id_v x0 x1) :=
 (Evt.bind (spec_l1In_ev x1 1 (x0.fTexts.length : Int)) (Evt.self _))
def spec_SignId_v (x0 : Ledger) (x1 : Int) (x2 : Int) : LedgerResult := (bif ((spec_l1Fault_v x0) != 0) then (⟨(spec_l1Fault_v x0), 0, (⟨([] : List ByteArray), ([] : List Sign)⟩ : Ledger)⟩ : LedgerResult) else (bif ((!(spec_l1Key_v x1)) || (!(bif (!(!(spec_l1Key_v x1))) then (spec_l1Id_v x0 x2) else default))) then (⟨3, 0, (⟨([] : List ByteArray), ([] : List Sign)⟩ : Ledger)⟩ : LedgerResult) else (bif (spec_l1Signed_v x0.fSigns (⟨x1, x2⟩ : Sign)) then (⟨0, x2, (spec_l1Copy_v x0)⟩ : LedgerResult) else (bif (decide (120 ≤ (x0.fSigns.length : Int))) then (⟨2, 0, (⟨([] : List ByteArray), ([] : List Sign)⟩ : Ledger)⟩ : LedgerResult) else (⟨0, x2, (⟨(spec_l1Copy_v x0).fTexts, (spec_l1Copy_v x0).fSigns ++ ([(⟨x1, x2⟩ : Sign)] : List Sign)⟩ : Ledger)⟩ : LedgerResult)))))
theorem spec_SignId_ev (x0 : Ledger) (x1 : Int) (x2 : Int) (h_x0 : smLedger x0) : Evt (fun k => spec_SignId.f k x0 x1 x2) (spec_SignId_v x0 x1 x2) :=
 (Evt.bind (spec_l1Fault_ev x0 (h_x0)) (Evt.ifh (fun hc3 => (Evt.self _)) (fun hc3 => (Evt.bind (spec_l1Key_ev x1) (Evt.bind (Evt.ifh (fun _ => (spec_l1Id_ev x0 x2 (h_x0))) (fun _ => Evt.self _)) (Evt.ifh (fun hc2 => (Evt.self _)) (fun hc2 => (Evt.bind (spec_l1Copy_ev x0 (h_x0)) (Evt.bind (spec_l1Signed_ev x0.fSigns (⟨x1, x2⟩ : Sign) (h_x0.2)) (Evt.ifh (fun hc1 => (Evt.self _)) (fun hc1 => (Evt.ifh (fun hc0 => (Evt.self _)) (fun hc0 => (Evt.chk (by first | exact idx_ok (by omega) | exact idx_ok (by have hq := len_eq (by assumption); omega) | exact idx_found (by simp_all) | exact cut_ok (by omega) | exact or_ok (idx_ok (by omega)) | (refine or1 (fun hz => pre_ok (by simp at hz; omega) (by omega) (by omega))) | exact pre_ok (by omega) (by omega) (by omega) | (simp_all [idxOk, cutOk, leB]; done) | (simp_all [idxOk, cutOk, leB]; omega) | (simp [idxOk, cutOk, leB] at *; omega) | (refine decide_eq_true ?_; have h1 := h_x0.2.1; simp only [spec_l1Copy_v, List.nil_append, List.length_cons, List.length_nil]; omega) | (have hf0 := h_x0.1.1; have hf1 := h_x0.2.1; simp only [leB, decide_eq_true_eq, List.length_append, List.length_cons, List.length_nil]; omega)) (Evt.self _)))))))))))))))
theorem few_texts (x0 : Ledger) (h : spec_l1Fault_v x0 = 0) : x0.fTexts.length ≤ 60 := by
 unfold spec_l1Fault_v at h
 cases hc : decide (60 < (x0.fTexts.length : Int))
 ·simp at hc; omega
 ·rw [hc] at h; exact absurd (show (2 : Int) = 0 from h) (by decide)
theorem note_smr (x0 : Ledger) (h0 : smLedger x0) (x1 : ByteArray) : smLedgerResult (spec_NoteText_v x0 x1) := by
 have hl : ∀ (a b : Int), smLedgerResult ⟨a, b, ⟨([] : List ByteArray), ([] : List Sign)⟩⟩ := fun a b => ⟨trivial, trivial, ⟨by simp, fun x hx => by cases hx⟩, ⟨by simp, fun x hx => by cases hx⟩⟩
 have hc : spec_l1Copy_v x0 = x0 := by simp [spec_l1Copy_v]
 unfold spec_NoteText_v
 rw [hc]
 cases hf : (spec_l1Fault_v x0) != 0
 ·have h60 := few_texts x0 (by simpa using hf)
  cases ((decide ((x1.size : Int) < 1)) || (decide (300 < (x1.size : Int))))
  ·cases decide (0 < (spec_l1At_v x0.fTexts x1))
   ·cases decide (60 ≤ (x0.fTexts.length : Int))
    ·exact ⟨trivial, trivial, ⟨by simp; omega, fun _ _ => trivial⟩, h0.2⟩
    ·exact hl _ _
   ·exact ⟨trivial, trivial, h0⟩
  ·exact hl _ _
 ·exact hl _ _
theorem sign_smr (x0 : Ledger) (h0 : smLedger x0) (x1 x2 : Int) : smLedgerResult (spec_SignId_v x0 x1 x2) := by
 have hl : ∀ (a b : Int), smLedgerResult ⟨a, b, ⟨([] : List ByteArray), ([] : List Sign)⟩⟩ := fun a b => ⟨trivial, trivial, ⟨by simp, fun x hx => by cases hx⟩, ⟨by simp, fun x hx => by cases hx⟩⟩
 have hc : spec_l1Copy_v x0 = x0 := by simp [spec_l1Copy_v]
 unfold spec_SignId_v
 rw [hc]
 cases (spec_l1Fault_v x0) != 0
 ·cases ((!(spec_l1Key_v x1)) || (!(bif (!(!(spec_l1Key_v x1))) then (spec_l1Id_v x0 x2) else default)))
  ·cases spec_l1Signed_v x0.fSigns (⟨x1, x2⟩ : Sign)
   ·cases hd : decide (120 ≤ (x0.fSigns.length : Int))
    ·have := of_decide_eq_false hd
     exact ⟨trivial, trivial, h0.1, ⟨by simp; omega, fun _ _ => ⟨trivial, trivial⟩⟩⟩
    ·exact hl _ _
   ·exact ⟨trivial, trivial, h0⟩
  ·exact hl _ _
 ·exact hl _ _
theorem world_l0 (c : List Int) (z : l1Src) (hz : z.fCode = c) (hc : codeOK c) : ∀ (d : Nat) (a : Int) (T : List ByteArray) (S : List Sign), 0 ≤ a → a + d ≤ 800000 → smLedger ⟨T, S⟩ → ∃ a' T' S', Evt (fun k => spec_l5World.l0 z k a T S (d : Int)) (a', T', S') ∧ a ≤ a' ∧ a' ≤ a + d ∧ smLedger ⟨T', S'⟩
 | 0, a, T, S, h0, h1, h2 => by
  refine ⟨a, T, S, Evt.s ?_, by omega, by omega, h2⟩
  simp only [spec_l5World.l0.eq_2]
  exact Evt.f rfl (Evt.self _)
 | d + 1, a, T, S, h0, h1, h2 => by
  obtain ⟨w, ew⟩ := word_ev c a hc (by omega)
  have en := spec_NoteText_ev ⟨T, S⟩ w h2
  have hn := (note_smr ⟨T, S⟩ h2 w).2.2
  have hd : decide ((0 : Int) < ((d + 1 : Nat) : Int)) = true := decide_eq_true (by omega)
  have e1 : wrap64 (((d + 1 : Nat) : Int) - 1) = (d : Int) := by rw [wrap64_in _ (by omega)]; omega
  obtain ⟨a', T', S', e, q1, q2, q3⟩ := world_l0 c z hz hc d (a + 1) _ _ (by omega) (by omega) hn
  refine ⟨a', T', S', Evt.s ?_, by omega, by omega, q3⟩
  simp only [spec_l5World.l0.eq_2, hz, e1]
  exact Evt.t hd (Evt.bind ew (Evt.bind en e))
theorem world_l1 (c : List Int) (z : l1Src) (R : LedgerResult) (hz : z.fCode = c) (hc : codeOK c) : ∀ (d : Nat) (a : Int) (T : List ByteArray) (S : List Sign) (j : Int), j + d = 7 → 0 ≤ j → 0 ≤ a → a + d ≤ 800000 → smLedger ⟨T, S⟩ → ∃ a' T' S', Evt (fun k => spec_l5World.l1 z R k a T S j) (a', T', S') ∧ a ≤ a' ∧ a' ≤ a + d
 | 0, a, T, S, j, hj, hj0, h0, h1, h2 => by
  refine ⟨a, T, S, Evt.s ?_, by omega, by omega⟩
  simp only [spec_l5World.l1.eq_2]
  exact Evt.f (decide_eq_false (by omega)) (Evt.self _)
 | d + 1, a, T, S, j, hj, hj0, h0, h1, h2 => by
  obtain ⟨b, eb⟩ := chance_ev c a 8 hc (by omega) (by omega)
  have es := spec_SignId_ev ⟨T, S⟩ j R.fId h2
  have hs := (sign_smr ⟨T, S⟩ h2 j R.fId).2.2
  have hd : decide (j < 7) = true := decide_eq_true (by omega)
  have e1 : wrap64 (j + 1) = j + 1 := wrap64_in _ (by omega)
  cases b
  ·obtain ⟨a', T', S', e, q1, q2⟩ := world_l1 c z R hz hc d (a + 1) _ _ (j + 1) (by omega) (by omega) (by omega) (by omega) hs
   refine ⟨a', T', S', Evt.s ?_, by omega, by omega⟩
   simp only [spec_l5World.l1.eq_2, hz, e1]
   exact Evt.t hd (Evt.bind eb (Evt.t rfl (Evt.bind es e)))
  ·obtain ⟨a', T', S', e, q1, q2⟩ := world_l1 c z R hz hc d (a + 1) T S (j + 1) (by omega) (by omega) (by omega) (by omega) h2
   refine ⟨a', T', S', Evt.s ?_, by omega, by omega⟩
   simp only [spec_l5World.l1.eq_2, hz, e1]
   exact Evt.t hd (Evt.bind eb (Evt.f rfl e))
theorem l5World_ev (c : List Int) (a : Int) (hc : codeOK c) (h0 : 0 ≤ a) (h1 : a ≤ 400000) : ∃ (l : Ledger) (xs : List Coin) (t : Tx) (a' : Int), Evt (fun k => spec_l5World.f k ⟨c, a⟩) (l, xs, t, a') ∧ Lm smCoin xs ∧ xs.length ≤ 40 ∧ smTx t ∧ a ≤ a' ∧ a' ≤ a + 600 := by
 obtain ⟨xs, a1, e1, p1, q1, hx, hl⟩ := l4Right_ev c a hc h0 (by omega)
 obtain ⟨t, a2, e2, ht, p2, q2⟩ := l5Tx_ev c a1 xs hc (by omega) (by omega) (by omega)
 obtain ⟨v, ev, v0, v1⟩ := next_ev c a2 3 hc (by omega) (by omega)
 obtain ⟨n, rfl⟩ : ∃ n : Nat, v = n := ⟨v.toNat, by omega⟩
 obtain ⟨a3, T, S, e3, p3, q3, hTS⟩ := world_l0 c ⟨c, a⟩ rfl hc n (a2 + 1) [] [] (by omega) (by omega) ⟨⟨by simp, by simp⟩, ⟨by simp, by simp⟩⟩
 have et := spec_TxText_ev t ht
 obtain ⟨a4, T', S', e4, p4, q4⟩ : ∃ (a4 : Int) (T' : List ByteArray) (S' : List Sign), Evt (fun k => ((spec_TxText.f k (⟨t.fKind, t.fMember, t.fIns, t.fOuts⟩ : Tx)).bind fun t7007 => ((bif (t7007.fCode == 0) then spec_l1Chance.f k (⟨c, a3⟩ : l1Src) 10 else some (default, a3)).bind fun t7015 => (bif ((t7007.fCode == 0) && (!t7015.1)) then ((spec_NoteText.f k (⟨T, S⟩ : Ledger) t7007.fText).bind fun t7029 => spec_l5World.l1 ⟨c, a⟩ t7029 k t7015.2 t7029.fLedger.fTexts t7029.fLedger.fSigns 1) else some (t7015.2, T, S))))) (a4, T', S') ∧ a3 ≤ a4 ∧ a4 ≤ a3 + 10 := by
  cases hq : (spec_TxText_v t).fCode == 0
  ·exact ⟨a3, T, S, Evt.bind et (Evt.bind (a := (default, a3)) (Evt.f hq (Evt.self _)) (Evt.f (by show (((spec_TxText_v t).fCode == 0) && _) = false; rw [hq]; rfl) (Evt.self _))), by omega, by omega⟩
  ·obtain ⟨b, eb⟩ := chance_ev c a3 10 hc (by omega) (by omega)
   cases b
   ·obtain ⟨a4, T', S', e4, p4, q4⟩ := world_l1 c ⟨c, a⟩ (spec_NoteText_v ⟨T, S⟩ (spec_TxText_v t).fText) rfl hc 6 (a3 + 1) _ _ 1 (by omega) (by omega) (by omega) (by omega) (note_smr ⟨T, S⟩ hTS (spec_TxText_v t).fText).2.2
    exact ⟨a4, T', S', Evt.bind et (Evt.bind (Evt.t hq eb) (Evt.t (by show (((spec_TxText_v t).fCode == 0) && (!false)) = true; rw [hq]; rfl) (Evt.bind (spec_NoteText_ev ⟨T, S⟩ (spec_TxText_v t).fText hTS) e4))), by omega, by omega⟩
   ·exact ⟨a3 + 1, T, S, Evt.bind et (Evt.bind (Evt.t hq eb) (Evt.f (by show (((spec_TxText_v t).fCode == 0) && (!true)) = false; rw [hq]; rfl) (Evt.self _))), by omega, by omega⟩
 exact ⟨⟨T', S'⟩, xs, t, a4, Evt.bind e1 (Evt.bind e2 (Evt.bindc3 (Evt.bind ev e3) (Evt.bindc3 e4 (Evt.self _)))), hx, hl, ht, by omega, by omega⟩
theorem right_l0 (c : List Int) (z : l1Src) (hz : z.fCode = c) (hc : codeOK c) : ∀ (d : Nat) (a : Int) (T : List ByteArray) (S : List Sign), 0 ≤ a → a + d ≤ 800000 → smLedger ⟨T, S⟩ → ∃ a' T' S', Evt (fun k => spec_l1Right.l0 z k a T S (d : Int)) (a', T', S') ∧ a ≤ a' ∧ a' ≤ a + d ∧ smLedger ⟨T', S'⟩
 | 0, a, T, S, h0, h1, h2 => by
  refine ⟨a, T, S, Evt.s ?_, by omega, by omega, h2⟩
  simp only [spec_l1Right.l0.eq_2]
  exact Evt.f rfl (Evt.self _)
 | d + 1, a, T, S, h0, h1, h2 => by
  obtain ⟨w, ew⟩ := word_ev c a hc (by omega)
  have en := spec_NoteText_ev ⟨T, S⟩ w h2
  have hn := (note_smr ⟨T, S⟩ h2 w).2.2
  have hd : decide ((0 : Int) < ((d + 1 : Nat) : Int)) = true := decide_eq_true (by omega)
  have e1 : wrap64 (((d + 1 : Nat) : Int) - 1) = (d : Int) := by rw [wrap64_in _ (by omega)]; omega
  obtain ⟨a', T', S', e, q1, q2, q3⟩ := right_l0 c z hz hc d (a + 1) _ _ (by omega) (by omega) hn
  refine ⟨a', T', S', Evt.s ?_, by omega, by omega, q3⟩
  simp only [spec_l1Right.l0.eq_2, hz, e1]
  exact Evt.t hd (Evt.bind ew (Evt.bind en e))
theorem right_l1 (c : List Int) (z : l1Src) (hz : z.fCode = c) (hc : codeOK c) : ∀ (d : Nat) (a : Int) (T : List ByteArray) (S : List Sign), 0 ≤ a → a + 2 * d ≤ 800000 → smLedger ⟨T, S⟩ → ∃ a' T' S', Evt (fun k => spec_l1Right.l1 z k a T S (d : Int)) (a', T', S') ∧ a ≤ a' ∧ a' ≤ a + 2 * d ∧ smLedger ⟨T', S'⟩
 | 0, a, T, S, h0, h1, h2 => by
  refine ⟨a, T, S, Evt.s ?_, by omega, by omega, h2⟩
  simp only [spec_l1Right.l1.eq_2]
  exact Evt.f rfl (Evt.self _)
 | d + 1, a, T, S, h0, h1, h2 => by
  obtain ⟨v, ev, v0, v1⟩ := next_ev c a 4 hc (by omega) (by omega)
  obtain ⟨u, eu, u0, u1⟩ := next_ev c (a + 1) 5 hc (by omega) (by omega)
  have es := spec_SignId_ev ⟨T, S⟩ (wrap64 (1 + v)) (wrap64 (1 + u)) h2
  have hs := (sign_smr ⟨T, S⟩ h2 (wrap64 (1 + v)) (wrap64 (1 + u))).2.2
  have hd : decide ((0 : Int) < ((d + 1 : Nat) : Int)) = true := decide_eq_true (by omega)
  have e1 : wrap64 (((d + 1 : Nat) : Int) - 1) = (d : Int) := by rw [wrap64_in _ (by omega)]; omega
  cases hq : (spec_SignId_v ⟨T, S⟩ (wrap64 (1 + v)) (wrap64 (1 + u))).fCode == 0
  ·obtain ⟨a', T', S', e, q1, q2, q3⟩ := right_l1 c z hz hc d (a + 1 + 1) T S (by omega) (by omega) h2
   refine ⟨a', T', S', Evt.s ?_, by omega, by omega, q3⟩
   simp only [spec_l1Right.l1.eq_2, hz, e1]
   exact Evt.t hd (Evt.bind ev (Evt.bind eu (Evt.bind es (Evt.f hq e))))
  ·obtain ⟨a', T', S', e, q1, q2, q3⟩ := right_l1 c z hz hc d (a + 1 + 1) _ _ (by omega) (by omega) hs
   refine ⟨a', T', S', Evt.s ?_, by omega, by omega, q3⟩
   simp only [spec_l1Right.l1.eq_2, hz, e1]
   exact Evt.t hd (Evt.bind ev (Evt.bind eu (Evt.bind es (Evt.t hq e))))
theorem l1Right_ev (c : List Int) (a : Int) (hc : codeOK c) (h0 : 0 ≤ a) (h1 : a ≤ 600000) : ∃ (l : Ledger) (a' : Int), Evt (fun k => spec_l1Right.f k ⟨c, a⟩) (l, a') ∧ a ≤ a' ∧ a' ≤ a + 30 ∧ smLedger l := by
 obtain ⟨v, ev, v0, v1⟩ := next_ev c a 6 hc (by omega) (by omega)
 obtain ⟨n, rfl⟩ : ∃ n : Nat, v = n := ⟨v.toNat, by omega⟩
 obtain ⟨a3, T, S, e3, p3, q3, hTS⟩ := right_l0 c ⟨c, a⟩ rfl hc n (a + 1) [] [] (by omega) (by omega) ⟨⟨by simp, by simp⟩, ⟨by simp, by simp⟩⟩
 obtain ⟨u, eu, u0, u1⟩ := next_ev c a3 6 hc (by omega) (by omega)
 obtain ⟨m, rfl⟩ : ∃ m : Nat, u = m := ⟨u.toNat, by omega⟩
 obtain ⟨a4, T', S', e4, p4, q4, hTS'⟩ := right_l1 c ⟨c, a⟩ rfl hc m (a3 + 1) T S (by omega) (by omega) hTS
 exact ⟨⟨T', S'⟩, a4, Evt.bindc3 (Evt.bind ev e3) (Evt.bindc3 (Evt.bind eu e4) (Evt.self _)), by omega, by omega, hTS'⟩
theorem l1Ledger_ev (c : List Int) (a : Int) (hc : codeOK c) (h0 : 0 ≤ a) (h1 : a ≤ 500000) : ∃ (l : Ledger) (a' : Int), Evt (fun k => spec_l1Ledger.f k ⟨c, a⟩) (l, a') ∧ a ≤ a' ∧ a' ≤ a + 40 := by
 obtain ⟨l, a1, e1, p1, q1, hl⟩ := l1Right_ev c a hc h0 (by omega)
 obtain ⟨v, ev, v0, v1⟩ := next_ev c a1 16 hc (by omega) (by omega)
 obtain ⟨u, eu, u0, u1⟩ := next_ev c (a1 + 1) 3 hc (by omega) (by omega)
 obtain ⟨x0, f0, _⟩ := pick_ev c (a1 + 1) [1, 0, 1000] hc (by omega) (by simp)
 obtain ⟨x1, f1, _⟩ := pick_ev c (a1 + 1 + 1) [1, 9, 0] hc (by omega) (by simp)
 have hT := hl.1.1
 have hS := hl.2.1
 cases h0 : v == 0
 ·cases h1 : v == 1
  ·cases h2 : v == 2
   ·exact ⟨_, _, Evt.bind e1 (Evt.bind ev (Evt.f h0 (Evt.f h1 (Evt.f h2 (Evt.self _))))), by omega, by omega⟩
   ·exact ⟨_, _, Evt.bind e1 (Evt.bind ev (Evt.f h0 (Evt.f h1 (Evt.t h2 (Evt.chk rfl (Evt.chk rfl (Evt.self _))))))), by omega, by omega⟩
  ·exact ⟨_, _, Evt.bind e1 (Evt.bind ev (Evt.f h0 (Evt.t h1 (Evt.bind f0 (Evt.bind f1 (Evt.chk (leB_mk2 (by simp; omega)) (Evt.self _))))))), by omega, by omega⟩
 ·exact ⟨_, _, Evt.bind e1 (Evt.bind ev (Evt.t h0 (Evt.bind eu (Evt.chk (by unfold idxOk; simp; omega) (Evt.chk (leB_mk2 (by simp; omega)) (Evt.self _)))))), by omega, by omega⟩
theorem set_sm {xs : List Coin} (h : Lm smCoin xs) (i : Nat) {y : Coin} (hy : smCoin y) : Lm smCoin (xs.set i y) := ⟨by rw [List.length_set]; exact h.1, fun c hc => by
 rcases List.mem_or_eq_of_mem_set hc with h' | h'
 ·exact h.2 c h'
 ·rw [h']; exact hy⟩
theorem l4Bent_ev (c : List Int) (a : Int) (hc : codeOK c) (h0 : 0 ≤ a) (h1 : a ≤ 400000) : ∃ xs a', Evt (fun k => spec_l4Bent.f k ⟨c, a⟩) (xs, a') ∧ a ≤ a' ∧ a' ≤ a + 270 ∧ Lm smCoin xs ∧ xs.length ≤ 41 := by
 obtain ⟨xs, a1, e1, p1, q1, hsm, hl⟩ := l4Right_ev c a hc h0 (by omega)
 obtain ⟨a2, ys, e2, p2, q2, hs2, hl2⟩ : ∃ (a2 : Int) (ys : List Coin), Evt (fun k => (bif (decide (0 < (xs.length : Int))) then ((spec_l1Next.f k (⟨c, a1⟩ : l1Src) 14).bind fun t3197 => (bif (t3197.1 == 0) then ((spec_l1Pick.f k (⟨c, t3197.2⟩ : l1Src) ([0, 61, 3] : List Int)).bind fun t3210 => (chk (idxOk (0 : Int) xs.length) (some (t3210.2, xs.set ((0 : Int)).toNat (⟨(⟨t3210.1, (gt xs (0 : Int)).fRef.fAt⟩ : Ref), (gt xs (0 : Int)).fOut, (gt xs (0 : Int)).fHeight, (gt xs (0 : Int)).fMined⟩ : Coin))))) else (bif (t3197.1 == 1) then ((spec_l1Pick.f k (⟨c, t3197.2⟩ : l1Src) ([(-1), 1000] : List Int)).bind fun t3226 => (chk (idxOk (0 : Int) xs.length) (some (t3226.2, xs.set ((0 : Int)).toNat (⟨(gt xs (0 : Int)).fRef, (gt xs (0 : Int)).fOut, t3226.1, (gt xs (0 : Int)).fMined⟩ : Coin))))) else (bif (t3197.1 == 2) then (chk (idxOk (0 : Int) xs.length) (some (t3197.2, xs.set ((0 : Int)).toNat (⟨(gt xs (0 : Int)).fRef, (⟨0, (gt xs (0 : Int)).fOut.fRule⟩ : Out), (gt xs (0 : Int)).fHeight, (gt xs (0 : Int)).fMined⟩ : Coin)))) else (bif (t3197.1 == 3) then (chk (idxOk (0 : Int) xs.length) (chk (leB ((xs.length + 1) * 80) 140737488355328) (some (t3197.2, xs ++ ([(gt xs (0 : Int))] : List Coin))))) else some (t3197.2, xs)))))) else some (a1, xs))) (a2, ys) ∧ a1 ≤ a2 ∧ a2 ≤ a1 + 2 ∧ Lm smCoin ys ∧ ys.length ≤ 41 := by
  cases hz : decide (0 < (xs.length : Int))
  ·exact ⟨a1, xs, Evt.f rfl (Evt.self _), by omega, by omega, hsm, by omega⟩
  ·have hpos : 0 < xs.length := by have := of_decide_eq_true hz; omega
   have hx : idxOk (0 : Int) xs.length = true := idx_ok (i := 0) hpos
   have hg : smCoin (gt xs (0 : Int)) := hsm.2 _ (gt_mem (i := 0) hpos)
   obtain ⟨v, ev, v0, v1⟩ := next_ev c a1 14 hc (by omega) (by omega)
   obtain ⟨x0, f0, _⟩ := pick_ev c (a1 + 1) [0, 61, 3] hc (by omega) (by simp)
   obtain ⟨x1, f1, _⟩ := pick_ev c (a1 + 1) [-1, 1000] hc (by omega) (by simp)
   cases h0 : v == 0
   ·cases h1 : v == 1
    ·cases h2 : v == 2
     ·cases h3 : v == 3
      ·exact ⟨_, _, Evt.t rfl (Evt.bind ev (Evt.f h0 (Evt.f h1 (Evt.f h2 (Evt.f h3 (Evt.self _)))))), by omega, by omega, hsm, by omega⟩
      ·exact ⟨_, _, Evt.t rfl (Evt.bind ev (Evt.f h0 (Evt.f h1 (Evt.f h2 (Evt.t h3 (Evt.chk hx (Evt.chk (leB_mk2 (by omega)) (Evt.self _)))))))), by omega, by omega, ⟨by simp; omega, fun q hq => by
        rcases List.mem_append.1 hq with hq | hq
        ·exact hsm.2 q hq
        ·simp at hq; subst hq; exact hg⟩, by simp; omega⟩
     ·exact ⟨_, _, Evt.t rfl (Evt.bind ev (Evt.f h0 (Evt.f h1 (Evt.t h2 (Evt.chk hx (Evt.self _)))))), by omega, by omega, set_sm hsm _ ⟨hg.1, ⟨trivial, hg.2.1.2⟩, trivial, trivial⟩, by rw [List.length_set]; omega⟩
    ·exact ⟨_, _, Evt.t rfl (Evt.bind ev (Evt.f h0 (Evt.t h1 (Evt.bind f1 (Evt.chk hx (Evt.self _)))))), by omega, by omega, set_sm hsm _ ⟨hg.1, hg.2.1, trivial, trivial⟩, by rw [List.length_set]; omega⟩
   ·exact ⟨_, _, Evt.t rfl (Evt.bind ev (Evt.t h0 (Evt.bind f0 (Evt.chk hx (Evt.self _))))), by omega, by omega, set_sm hsm _ ⟨⟨trivial, trivial⟩, hg.2.1, trivial, trivial⟩, by rw [List.length_set]; omega⟩
 obtain ⟨b, eb⟩ := chance_ev c a2 40 hc (by omega) (by omega)
 cases b
 ·exact ⟨ys, a2 + 1, Evt.bind e1 (Evt.bindc e2 (Evt.bind eb (Evt.f rfl (Evt.self _)))), by omega, by omega, hs2, hl2⟩
 ·refine ⟨List.replicate 41 ⟨⟨0, 0⟩, ⟨0, ⟨[], 0, 0⟩⟩, 0, false⟩, a2 + 1, Evt.bind e1 (Evt.bindc e2 (Evt.bind eb (Evt.t rfl (Evt.chk rfl (Evt.chk rfl (Evt.self _)))))), by omega, by omega, ⟨by rw [List.length_replicate]; omega, fun q hq => ?_⟩, by rw [List.length_replicate]; omega⟩
  rw [List.eq_of_mem_replicate hq]
  exact ⟨⟨trivial, trivial⟩, ⟨trivial, ⟨by simp, by simp⟩, trivial, trivial⟩, trivial, trivial⟩
theorem l2Bent_ev (c : List Int) (a : Int) (hc : codeOK c) (h0 : 0 ≤ a) (h1 : a ≤ 700000) : ∃ r a', Evt (fun k => spec_l2Bent.f k ⟨c, a⟩) (r, a') ∧ r.fKeys.length ≤ 10 ∧ a ≤ a' ∧ a' ≤ a + 20 := by
 obtain ⟨b, a1, e1, q1, q2, hb⟩ := l2Draw_ev c a hc h0 (by omega)
 have hl := (rule_ok b (by rw [hb]; rfl)).n3
 obtain ⟨v, e2, v0, v1⟩ := next_ev c a1 10 hc (by omega) (by omega)
 obtain ⟨x0, f0, _⟩ := pick_ev c (a1 + 1) [0, 1, 1000] hc (by omega) (by simp)
 obtain ⟨x1, f1, _⟩ := pick_ev c (a1 + 1) [0, 4, 2] hc (by omega) (by simp)
 obtain ⟨x2, f2, _⟩ := pick_ev c (a1 + 1) [-1, 999, 1000] hc (by omega) (by simp)
 cases h0 : v == 0
 ·cases h1 : v == 1
  ·cases h2 : v == 2
   ·cases h3 : v == 3
    ·exact ⟨_, _, Evt.bind e1 (Evt.bind e2 (Evt.f h0 (Evt.f h1 (Evt.f h2 (Evt.f h3 (Evt.self _)))))), by show b.fKeys.length ≤ 10; omega, by omega, by omega⟩
    ·exact ⟨_, _, Evt.bind e1 (Evt.bind e2 (Evt.f h0 (Evt.f h1 (Evt.f h2 (Evt.t h3 (Evt.self _)))))), by show ([] : List Int).length ≤ 10; simp, by omega, by omega⟩
   ·exact ⟨_, _, Evt.bind e1 (Evt.bind e2 (Evt.f h0 (Evt.f h1 (Evt.t h2 (Evt.bind f2 (Evt.self _)))))), by show b.fKeys.length ≤ 10; omega, by omega, by omega⟩
  ·exact ⟨_, _, Evt.bind e1 (Evt.bind e2 (Evt.f h0 (Evt.t h1 (Evt.bind f1 (Evt.self _))))), by show b.fKeys.length ≤ 10; omega, by omega, by omega⟩
 ·exact ⟨_, _, Evt.bind e1 (Evt.bind e2 (Evt.t h0 (Evt.bind f0 (Evt.chk (leB_mk2 (by simp; omega)) (Evt.self _))))), by show (b.fKeys ++ [x0]).length ≤ 10; simp; omega, by omega, by omega⟩
theorem l3Bent_ev (c : List Int) (a : Int) (hc : codeOK c) (h0 : 0 ≤ a) (h1 : a ≤ 500000) : ∃ t a', Evt (fun k => spec_l3Bent.f k ⟨c, a⟩) (t, a') ∧ smTx t ∧ a ≤ a' ∧ a' ≤ a + 200 := by
 obtain ⟨t, a1, e1, q1, q2, ht⟩ := l3Draw_ev c a hc h0 (by omega)
 have hsm := okTx_sm ht
 have i4 := ht.ins4; have o1 := ht.outs1; have o4 := ht.outs4
 obtain ⟨v, e2, v0, v1⟩ := next_ev c a1 14 hc (by omega) (by omega)
 obtain ⟨x0, f0, _⟩ := pick_ev c (a1 + 1) [-1, 3, 0, 1] hc (by omega) (by simp)
 obtain ⟨x1, f1, _⟩ := pick_ev c (a1 + 1) [0, 1000, 5] hc (by omega) (by simp)
 obtain ⟨x2, f2, _⟩ := pick_ev c (a1 + 1) [0, 61, 1] hc (by omega) (by simp)
 obtain ⟨y2, g2, _⟩ := pick_ev c (a1 + 1 + 1) [0, 4] hc (by omega) (by simp)
 obtain ⟨x3, f3, _⟩ := pick_ev c (a1 + 1) [0, 1, 1000001, 99] hc (by omega) (by simp)
 obtain ⟨r4, b4, f4, hr4, hb5, hb6⟩ := l2Bent_ev c (a1 + 1) hc (by omega) (by omega)
 have hi : idxOk (0 : Int) t.fOuts.length = true := idx_ok (i := 0) (by omega)
 have hset : ∀ y : Out, smOut y → (Lm smOut) (t.fOuts.set ((0 : Int)).toNat y) := fun y hy => ⟨by rw [List.length_set]; exact hsm.2.2.2.1, fun z hz => by
  rcases List.mem_or_eq_of_mem_set hz with h | h
  ·exact hsm.2.2.2.2 z h
  ·rw [h]; exact hy⟩
 cases h0 : v == 0
 ·cases h1 : v == 1
  ·cases h2 : v == 2
   ·cases h3 : v == 3
    ·cases h4 : v == 4
     ·cases h5 : v == 5
      ·cases h6 : v == 6
       ·exact ⟨_, _, Evt.bind e1 (Evt.bind e2 (Evt.f h0 (Evt.f h1 (Evt.f h2 (Evt.f h3 (Evt.f h4 (Evt.f h5 (Evt.f h6 (Evt.self _))))))))), hsm, by omega, by omega⟩
       ·exact ⟨_, _, Evt.bind e1 (Evt.bind e2 (Evt.f h0 (Evt.f h1 (Evt.f h2 (Evt.f h3 (Evt.f h4 (Evt.f h5 (Evt.t h6 (Evt.chk rfl (Evt.chk rfl (Evt.self _))))))))))), ⟨trivial, trivial, hsm.2.2.1, by show (List.replicate ((5 : Int)).toNat (⟨0, ⟨[], 0, 0⟩⟩ : Out)).length ≤ _; simp, fun o ho => by
         have : o = ⟨0, ⟨[], 0, 0⟩⟩ := (List.mem_replicate.1 ho).2
         subst this; exact ⟨trivial, ⟨by simp, fun _ _ => trivial⟩, trivial, trivial⟩⟩, by omega, by omega⟩
      ·exact ⟨_, _, Evt.bind e1 (Evt.bind e2 (Evt.f h0 (Evt.f h1 (Evt.f h2 (Evt.f h3 (Evt.f h4 (Evt.t h5 (Evt.self _)))))))), ⟨trivial, trivial, ⟨by simp, fun _ h => by cases h⟩, hsm.2.2.2⟩, by omega, by omega⟩
     ·exact ⟨_, _, Evt.bind e1 (Evt.bind e2 (Evt.f h0 (Evt.f h1 (Evt.f h2 (Evt.f h3 (Evt.t h4 (Evt.bind f4 (Evt.chk hi (Evt.self _))))))))), ⟨trivial, trivial, hsm.2.2.1, hset _ ⟨trivial, ⟨by show r4.fKeys.length ≤ _; omega, fun _ _ => trivial⟩, trivial, trivial⟩⟩, by omega, by omega⟩
    ·exact ⟨_, _, Evt.bind e1 (Evt.bind e2 (Evt.f h0 (Evt.f h1 (Evt.f h2 (Evt.t h3 (Evt.bind f3 (Evt.chk hi (Evt.self _)))))))), ⟨trivial, trivial, hsm.2.2.1, hset _ ⟨trivial, (hsm.2.2.2.2 _ (gt_mem (i := 0) (by omega))).2⟩⟩, by omega, by omega⟩
   ·exact ⟨_, _, Evt.bind e1 (Evt.bind e2 (Evt.f h0 (Evt.f h1 (Evt.t h2 (Evt.bind f2 (Evt.bind g2 (Evt.chk (leB_mk2 (by simp; omega)) (Evt.self _)))))))), ⟨trivial, trivial, ⟨by show (t.fIns ++ [(⟨x2, y2⟩ : Ref)]).length ≤ _; simp; omega, fun _ _ => ⟨trivial, trivial⟩⟩, hsm.2.2.2⟩, by omega, by omega⟩
  ·exact ⟨_, _, Evt.bind e1 (Evt.bind e2 (Evt.f h0 (Evt.t h1 (Evt.bind f1 (Evt.self _))))), ⟨trivial, trivial, hsm.2.2⟩, by omega, by omega⟩
 ·exact ⟨_, _, Evt.bind e1 (Evt.bind e2 (Evt.t h0 (Evt.bind f0 (Evt.self _)))), ⟨trivial, trivial, hsm.2.2⟩, by omega, by omega⟩
theorem Evt.bindc8 {A B C D E F' G' H' γ : Type} {F : Nat → Option (A × B × C × D × E × F' × G' × H')} {G : Nat → A → B → C → D → E → F' → G' → H' → Option γ} {a : A} {b : B} {c : C} {d : D} {e : E} {f : F'} {g : G'} {h' : H'} {r : γ} (h : Evt F (a, b, c, d, e, f, g, h')) (h2 : Evt (fun k => G k a b c d e f g h') r) : Evt (fun k => (F k).bind (cur8 (G k))) r := Evt.bind h h2
theorem DrawCheckTx_ev (c : List Int) (hc : codeOK c) : ∃ (l : Ledger) (xs : List Coin) (t : Tx) (h : Int), Evt (fun k => spec_DrawCheckTx.f k c) (l, xs, t, h) ∧ Lm smCoin xs ∧ xs.length ≤ 41 ∧ smTx t := by
 obtain ⟨l, xs, t, a1, e1, hx, hxl, ht, p1, q1⟩ := l5World_ev c 0 hc (by omega) (by omega)
 obtain ⟨v, ev, v0, v1⟩ := next_ev c a1 14 hc (by omega) (by omega)
 obtain ⟨a2, T, S, kd, mb, ins, outs, ys, e2, p2, q2, hy, hyl, ht2⟩ : ∃ (a2 : Int) (T : List ByteArray) (S : List Sign) (kd mb : Int) (ins : List Ref) (outs : List Out) (ys : List Coin), Evt (fun k => ((spec_l1Next.f k (⟨c, a1⟩ : l1Src) 14).bind fun t9186 => (bif (t9186.1 == 0) then ((spec_l1Ledger.f k (⟨c, t9186.2⟩ : l1Src)).bind fun t9196 => some (t9196.2, t9196.1.fTexts, t9196.1.fSigns, t.fKind, t.fMember, t.fIns, t.fOuts, xs)) else (bif (t9186.1 == 1) then ((spec_l4Bent.f k (⟨c, t9186.2⟩ : l1Src)).bind fun t9211 => some (t9211.2, l.fTexts, l.fSigns, t.fKind, t.fMember, t.fIns, t.fOuts, t9211.1)) else (bif (t9186.1 == 2) then ((spec_l3Bent.f k (⟨c, t9186.2⟩ : l1Src)).bind fun t9223 => some (t9223.2, l.fTexts, l.fSigns, t9223.1.fKind, t9223.1.fMember, t9223.1.fIns, t9223.1.fOuts, xs)) else some (t9186.2, l.fTexts, l.fSigns, t.fKind, t.fMember, t.fIns, t.fOuts, xs)))))) (a2, T, S, kd, mb, ins, outs, ys) ∧ a1 ≤ a2 ∧ a2 ≤ a1 + 400 ∧ Lm smCoin ys ∧ ys.length ≤ 41 ∧ smTx ⟨kd, mb, ins, outs⟩ := by
  cases h0 : v == 0
  ·cases h1 : v == 1
   ·cases h2 : v == 2
    ·exact ⟨_, _, _, _, _, _, _, _, Evt.bind ev (Evt.f h0 (Evt.f h1 (Evt.f h2 (Evt.self _)))), by omega, by omega, hx, by omega, ht⟩
    ·obtain ⟨t3, a3, e3, ht3, p3, q3⟩ := l3Bent_ev c (a1 + 1) hc (by omega) (by omega)
     exact ⟨_, _, _, _, _, _, _, _, Evt.bind ev (Evt.f h0 (Evt.f h1 (Evt.t h2 (Evt.bind e3 (Evt.self _))))), by omega, by omega, hx, by omega, ht3⟩
   ·obtain ⟨ys, a3, e3, p3, q3, hy, hyl⟩ := l4Bent_ev c (a1 + 1) hc (by omega) (by omega)
    exact ⟨_, _, _, _, _, _, _, _, Evt.bind ev (Evt.f h0 (Evt.t h1 (Evt.bind e3 (Evt.self _)))), by omega, by omega, hy, by omega, ht⟩
  ·obtain ⟨l3, a3, e3, p3, q3⟩ := l1Ledger_ev c (a1 + 1) hc (by omega) (by omega)
   exact ⟨_, _, _, _, _, _, _, _, Evt.bind ev (Evt.t h0 (Evt.bind e3 (Evt.self _))), by omega, by omega, hx, by omega, ht⟩
 obtain ⟨x, ex, _, _⟩ := next_ev c a2 9 hc (by omega) (by omega)
 obtain ⟨y, ey, _, _⟩ := next_ev c (a2 + 1) 9 hc (by omega) (by omega)
 obtain ⟨h, eh, _⟩ := pick_ev c (a2 + 1 + 1) [wrap64 (9 + x), 9, y, 999, 1000, -1] hc (by omega) (by simp)
 exact ⟨⟨T, S⟩, ys, ⟨kd, mb, ins, outs⟩, h, Evt.bind (source_ev c) (Evt.bind e1 (Evt.bindc8 e2 (Evt.bind ex (Evt.bind ey (Evt.bind eh (Evt.self _)))))), hy, hyl, ht2⟩
theorem DrawSpendTx_ev (c : List Int) (hl : c.length ≤ 1048576) (hb : ∀ x ∈ c, 0 ≤ x ∧ x ≤ 255) : ∃ (xs : List Coin) (t : Tx) (id h : Int), Evt (fun k => spec_DrawSpendTx.f k c) (xs, t, id, h) ∧ Lm smCoin xs ∧ xs.length ≤ 41 ∧ smTx t := by
 have hc : codeOK c := ⟨by omega, hb⟩
 have hc3 : codeOK ([3] ++ c) := ⟨by simp; omega, fun x hx => by
  rcases List.mem_append.1 hx with hx | hx
  ·simp at hx; subst hx; omega
  ·exact hb x hx⟩
 obtain ⟨l, xs, t, h, e1, hx, hxl, ht⟩ := DrawCheckTx_ev c hc
 obtain ⟨x, ex, _, _⟩ := next_ev ([3] ++ c) 0 9 hc3 (by omega) (by omega)
 obtain ⟨y, ey, _, _⟩ := next_ev ([3] ++ c) (0 + 1) 9 hc3 (by omega) (by omega)
 obtain ⟨id, ei, _⟩ := pick_ev ([3] ++ c) (0 + 1 + 1) [wrap64 (20 + x), wrap64 (20 + y), 1, 61] hc3 (by omega) (by simp)
 exact ⟨xs, t, id, h, Evt.chk (leB_mk2 (by simp; omega)) (Evt.bind (source_ev _) (Evt.bind e1 (Evt.bind ex (Evt.bind ey (Evt.bind ei (Evt.self _)))))), hx, hxl, ht⟩
def spec_l5Spent_v (x0 : List Coin) (x1 : Tx) : (List Coin) × Bool := ((spec_l4Copy_v ((List.range' 0 (x0.length - 0)).foldl (fun ac1 (i0 : Nat) => (bif (spec_l3Among_v x1.fIns ((gt x0 (i0 : Int)).fRef)) then ((ac1 ++ ([(gt x0 (i0 : Int))] : List Coin))) else (ac1))) ([] : List Coin))), ((((List.range' 0 (x0.length - 0)).foldl (fun ac1 (i0 : Nat) => (bif (spec_l3Among_v x1.fIns ((gt x0 (i0 : Int)).fRef)) then ((ac1 ++ ([(gt x0 (i0 : Int))] : List Coin))) else (ac1))) ([] : List Coin)).length : Int) == (x1.fIns.length : Int)))
theorem spec_l5Spent_ev (x0 : List Coin) (x1 : Tx) (h_x0 : (Lm smCoin) x0) (h_x1 : smTx x1) : Evt (fun k => spec_l5Spent.f k x0 x1) (spec_l5Spent_v x0 x1) :=
 (Evt.bind (Evt.gatherL (L := (fun k ac i => spec_l5Spent.l0 x0 x1 k ac i)) x0.length (by have := h_x0; first | (have := this.1; omega) | omega) (fun ac1 (i0 : Nat) => (bif (spec_l3Among_v x1.fIns ((gt x0 (i0 : Int)).fRef)) then ((ac1 ++ ([(gt x0 (i0 : Int))] : List Coin))) else (ac1))) (fun i0 hi2 ac1 hgl => (len_bif (by first | (simp only [List.length_append, List.length_cons, List.length_nil]; omega) | omega) (by first | (simp only [List.length_append, List.length_cons, List.length_nil]; omega) | omega))) (fun i0 hi2 ac1 hgl o hg => by
 have hbn : x0.length ≤ 1048576 := (by have := h_x0; first | (have := this.1; omega) | omega)
 simp only [spec_l5Spent.l0.eq_2]
 exact Evt.t (int_lt hi2) (Evt.chk (by first | (simp only [leB, decide_eq_true_eq, List.length_append, List.length_cons, List.length_nil]; omega) | exact idx_ok (by omega) | exact idx_ok (by have hq := len_eq (by assumption); omega) | exact idx_found (by simp_all) | exact cut_ok (by omega) | exact or_ok (idx_ok (by omega)) | (refine or1 (fun hz => pre_ok (by simp at hz; omega) (by omega) (by omega))) | exact pre_ok (by omega) (by omega) (by omega) | (simp_all [idxOk, cutOk, leB]; done) | (simp_all [idxOk, cutOk, leB]; omega) | (simp [idxOk, cutOk, leB] at *; omega) | (have hf0 := h_x0.1; have hf1 := h_x1.2.2.1.1; have hf2 := h_x1.2.2.2.1; simp only [leB, decide_eq_true_eq, List.length_append, List.length_cons, List.length_nil]; omega)) (Evt.bind (spec_l3Among_ev x1.fIns ((gt x0 (i0 : Int)).fRef) (h_x1.2.2.1)) (Evt.cases (fun hc1 => (by rw [hc1] at hg; exact (Evt.chk (by first | (simp only [leB, decide_eq_true_eq, List.length_append, List.length_cons, List.length_nil]; omega) | exact idx_ok (by omega) | exact idx_ok (by have hq := len_eq (by assumption); omega) | exact idx_found (by simp_all) | exact cut_ok (by omega) | exact or_ok (idx_ok (by omega)) | (refine or1 (fun hz => pre_ok (by simp at hz; omega) (by omega) (by omega))) | exact pre_ok (by omega) (by omega) (by omega) | (simp_all [idxOk, cutOk, leB]; done) | (simp_all [idxOk, cutOk, leB]; omega) | (simp [idxOk, cutOk, leB] at *; omega) | (have hf0 := h_x0.1; have hf1 := h_x1.2.2.1.1; have hf2 := h_x1.2.2.2.1; simp only [leB, decide_eq_true_eq, List.length_append, List.length_cons, List.length_nil]; omega)) (Evt.chk (by first | (simp only [leB, decide_eq_true_eq, List.length_append, List.length_cons, List.length_nil]; omega) | exact idx_ok (by omega) | exact idx_ok (by have hq := len_eq (by assumption); omega) | exact idx_found (by simp_all) | exact cut_ok (by omega) | exact or_ok (idx_ok (by omega)) | (refine or1 (fun hz => pre_ok (by simp at hz; omega) (by omega) (by omega))) | exact pre_ok (by omega) (by omega) (by omega) | (simp_all [idxOk, cutOk, leB]; done) | (simp_all [idxOk, cutOk, leB]; omega) | (simp [idxOk, cutOk, leB] at *; omega) | (have hf0 := h_x0.1; have hf1 := h_x1.2.2.1.1; have hf2 := h_x1.2.2.2.1; simp only [leB, decide_eq_true_eq, List.length_append, List.length_cons, List.length_nil]; omega)) hg)))) (fun hc1 => (by rw [hc1] at hg; exact hg)))))) (fun j ac hj => by
 simp only [spec_l5Spent.l0.eq_2]
 exact Evt.f (ge_lt hj) (Evt.self _))) (Evt.bind (spec_l4Copy_ev ((List.range' 0 (x0.length - 0)).foldl (fun ac1 (i0 : Nat) => (bif (spec_l3Among_v x1.fIns ((gt x0 (i0 : Int)).fRef)) then ((ac1 ++ ([(gt x0 (i0 : Int))] : List Coin))) else (ac1))) ([] : List Coin)) ((Lm_gath x0 h_x0 _))) (Evt.self _)))
def spec_SpentBy_v (x0 : List Coin) (x1 : Tx) : CoinsResult := (bif ((spec_l4Fault_v x0) != 0) then (⟨(spec_l4Fault_v x0), ([] : List Coin)⟩ : CoinsResult) else (bif ((spec_l3Fault_v x1) != 0) then (⟨(spec_l3Fault_v x1), ([] : List Coin)⟩ : CoinsResult) else (bif !(spec_l5Spent_v x0 x1).2 then (⟨4, ([] : List Coin)⟩ : CoinsResult) else (⟨0, (spec_l5Spent_v x0 x1).1⟩ : CoinsResult))))
theorem spec_SpentBy_ev (x0 : List Coin) (x1 : Tx) (h_x0 : (Lm smCoin) x0) (h_x1 : smTx x1) : Evt (fun k => spec_SpentBy.f k x0 x1) (spec_SpentBy_v x0 x1) :=
 (Evt.bind (spec_l4Fault_ev x0 (h_x0)) (Evt.ifh (fun hc2 => (Evt.self _)) (fun hc2 => (Evt.bind (spec_l3Fault_ev x1 (h_x1)) (Evt.ifh (fun hc1 => (Evt.self _)) (fun hc1 => (Evt.bind (spec_l5Spent_ev x0 x1 (h_x0) (h_x1)) (Evt.ifh (fun hc0 => (Evt.self _)) (fun hc0 => (Evt.self _))))))))))
def spec_l4At_v (x0 : List Coin) (x1 : Ref) : Int := (onO ((List.range' 0 (x0.length - 0)).findSome? (fun (i0 : Nat) => (bif ((((gt x0 (i0 : Int)).fRef.fTx) == x1.fTx) && (((gt x0 (i0 : Int)).fRef.fAt) == x1.fAt)) then (some (i0 : Int)) else none))) (fun r => r) (-1))
theorem spec_l4At_ev (x0 : List Coin) (x1 : Ref) (h_x0 : (Lm smCoin) x0) : Evt (fun k => spec_l4At.f k x0 x1) (spec_l4At_v x0 x1) :=
 (Evt.loop (r' := fun r => r) (Evt.srch (L := (fun k i => spec_l4At.l0 x0 x1 k i)) 0 x0.length (by have := h_x0; first | (have := this.1; omega) | omega) (fun (i0 : Nat) => (bif ((((gt x0 (i0 : Int)).fRef.fTx) == x1.fTx) && (((gt x0 (i0 : Int)).fRef.fAt) == x1.fAt)) then (some (i0 : Int)) else none)) (fun i0 hs2 hi2 => by
 have hbn : x0.length ≤ 9223372036854775807 := (by have := h_x0; first | (have := this.1; omega) | omega)
 simp only [spec_l4At.l0.eq_2]
 exact Evt_t2 (int_lt hi2) (StE.chk (by first | exact idx_ok (by omega) | exact idx_ok (by have hq := len_eq (by assumption); omega) | exact idx_found (show (0 : Int) ≤ (i0 : Int) by simp_all) | exact cut_ok (by omega) | exact or_ok (idx_ok (by omega)) | (refine or1 (fun hz => pre_ok (by simp at hz; omega) (by omega) (by omega))) | exact pre_ok (by omega) (by omega) (by omega) | (simp_all [idxOk, cutOk, leB]; done) | (simp_all [idxOk, cutOk, leB]; omega) | (simp [idxOk, cutOk, leB] at *; omega) | (have hf0 := h_x0.1; simp only [leB, decide_eq_true_eq, List.length_append, List.length_cons, List.length_nil]; omega)) (StE.ifh (fun hc1 => (StE.ret _)) (fun hc1 => StE.next)))) (fun j hj => by
 simp only [spec_l4At.l0.eq_2]
 exact Evt.f (ge_lt hj) (Evt.self _))) (fun _ => rfl) (Evt.self _))
def takeG1 (out : List Coin) (r : Ref) : Option (List Coin) := bif decide (spec_l4At_v out r < 0) then none else some (out.take (spec_l4At_v out r).toNat ++ out.drop (wrap64 (spec_l4At_v out r + 1)).toNat)
theorem l4At_in (out : List Coin) (r : Ref) (h : decide (spec_l4At_v out r < 0) = false) : idxOk (spec_l4At_v out r) out.length = true := by
 have h0 : (0 : Int) ≤ spec_l4At_v out r := by simpa using h
 exact idx_found (show (0 : Int) ≤ spec_l4At_v out r from h0)
theorem takeG1_pres (s : List Coin) (r : Ref) (t : List Coin) (hs : Lm smCoin s) (h : takeG1 s r = some t) : t.Sublist s := by
 unfold takeG1 at h
 cases hc : decide (spec_l4At_v s r < 0)
 ·rw [hc] at h
  have h2 : s.take (spec_l4At_v s r).toNat ++ s.drop (wrap64 (spec_l4At_v s r + 1)).toNat = t := Option.some.inj h
  subst h2
  have h3 := l4At_in s r hc
  exact cut_sub s (cut_hi (cut_self h3 hs.1))
 ·rw [hc] at h; cases h
def spec_l4Take_v (x0 : List Coin) (x1 : List Ref) : (List Coin) × Bool := match stepAll takeG1 (spec_l4Copy_v x0) x1 with
 | some t => (t, true)
 | none => ([], false)
theorem spec_l4Take_ev (x0 : List Coin) (x1 : List Ref) (h_x0 : Lm smCoin x0) (h_x1 : Lm smRef x1) : Evt (fun k => spec_l4Take.f k x0 x1) (spec_l4Take_v x0 x1) := by
 have hn := h_x1.1
 refine Evt.bind (spec_l4Copy_ev x0 h_x0) (Evt.bind (Evt.steps (L := fun k s i => spec_l4Take.l0 x1 k s i) x1 (by omega) (Lm smCoin) takeG1 (([] : List Coin), false) (fun i hi s hs o hsome hnone => ?_) (fun s r t hs h => Lm_sub hs (takeG1_pres s r t hs h)) (fun s => ?_) (spec_l4Copy_v x0) (by rw [l4Copy_id]; exact h_x0)) ?_)
 ·simp only [spec_l4Take.l0.eq_2]
  refine Evt.t (int_lt hi) (Evt.chk (idx_ok hi) (Evt.bind (spec_l4At_ev s _ hs) (Evt.cases (fun hc => ?_) (fun hc => ?_))))
  ·exact Evt.ret (hnone (by unfold takeG1; rw [hc]; rfl)).symm
  ·have h3 := l4At_in s _ hc
   have h4 := cut_next h3 hs.1
   have h5 := cut_self h3 hs.1
   have h6 := idx_lo h3
   have h7 := idx_hi h3
   have h8 := cut_hi h5
   have h9 := cut_hi h4
   have hl := hs.1
   refine Evt.chk ?_ (Evt.chk h4 (Evt.chk ?_ (Evt.chk ?_ (Evt.chk (decide_eq_true h8) (hsome _ (by unfold takeG1; rw [hc]; rfl))))))
   ·unfold cutOk; simp; omega
   ·exact decide_eq_true (by omega)
   ·exact decide_eq_true (by omega)
 ·simp only [spec_l4Take.l0.eq_2]
  exact Evt.f int_nlt (Evt.self _)
 ·unfold spec_l4Take_v
  cases stepAll takeG1 (spec_l4Copy_v x0) x1 with
  | some t => exact Evt.self _
  | none => exact Evt.self _
theorem l4Take_sub (x0 : List Coin) (rs : List Ref) (h0 : Lm smCoin x0) : Lm smCoin (spec_l4Take_v x0 rs).1 := by
 unfold spec_l4Take_v
 cases hs : stepAll takeG1 (spec_l4Copy_v x0) rs with
 | none => exact ⟨by simp, fun x hx => by cases hx⟩
 | some t => exact stepAll_pres (I := Lm smCoin) (fun s r t hs h => Lm_sub hs (takeG1_pres s r t hs h)) rs _ t (by rw [l4Copy_id]; exact h0) hs
def spec_SpendTx_v (x0 : List Coin) (x1 : Tx) (x2 x3 : Int) : CoinsResult := bif ((spec_SpentBy_v x0 x1).fCode != 0) then spec_SpentBy_v x0 x1 else bif spec_l4Of_v x0 x2 then ⟨7, []⟩ else spec_PutCoins_v (spec_l4Take_v x0 x1.fIns).1 x2 x1.fOuts x3 false
theorem spec_SpendTx_ev (x0 : List Coin) (x1 : Tx) (x2 x3 : Int) (h_x0 : Lm smCoin x0) (h_x1 : smTx x1) : Evt (fun k => spec_SpendTx.f k x0 x1 x2 x3) (spec_SpendTx_v x0 x1 x2 x3) := by
 refine Evt.bind (spec_SpentBy_ev x0 x1 h_x0 h_x1) (Evt.ifh (fun _ => Evt.self _) (fun _ => Evt.bind (spec_l4Of_ev x0 x2 h_x0) (Evt.ifh (fun _ => Evt.self _) (fun _ => ?_))))
 exact Evt.bind (spec_l4Take_ev x0 x1.fIns h_x0 h_x1.2.2.1) (Evt.bind (spec_PutCoins_ev _ x2 x1.fOuts x3 false (l4Take_sub x0 x1.fIns h_x0) h_x1.2.2.2) (Evt.self _))
def impl_TxFault_1_v (x0 : Int) : Bool := ((decide (x0 < 1)) || (decide (4 < x0)))
theorem impl_TxFault_1_ev (x0 : Int)  : Evt (fun k => impl_TxFault_1.f k x0) (impl_TxFault_1_v x0) :=
 (Evt.self _)
def slices_Index_impl_Ref_v (x0 : List Ref) (x1 : Ref) : Int := (onO ((List.range' 0 (x0.length - 0)).findSome? (fun (i0 : Nat) => (bif ((x1.fTx == ((gt x0 (i0 : Int)).fTx)) && (x1.fAt == ((gt x0 (i0 : Int)).fAt))) then (some (i0 : Int)) else none))) (fun r => r) (-1))
theorem slices_Index_impl_Ref_ev (x0 : List Ref) (x1 : Ref) (h_x0 : (Lm smRef) x0) : Evt (fun k => slices_Index_impl_Ref.f k x0 x1) (slices_Index_impl_Ref_v x0 x1) :=
 (Evt.loop (r' := fun r => r) (Evt.srch (L := (fun k i => slices_Index_impl_Ref.l0 x0 x1 k i)) 0 x0.length (by have := h_x0; first | (have := this.1; omega) | omega) (fun (i0 : Nat) => (bif ((x1.fTx == ((gt x0 (i0 : Int)).fTx)) && (x1.fAt == ((gt x0 (i0 : Int)).fAt))) then (some (i0 : Int)) else none)) (fun i0 hs2 hi2 => by
 have hbn : x0.length ≤ 9223372036854775807 := (by have := h_x0; first | (have := this.1; omega) | omega)
 simp only [slices_Index_impl_Ref.l0.eq_2]
 exact Evt_t2 (int_lt hi2) (StE.chk (by first | exact idx_ok (by omega) | exact idx_ok (by have hq := len_eq (by assumption); omega) | exact idx_found (show (0 : Int) ≤ (i0 : Int) by simp_all) | exact cut_ok (by omega) | exact or_ok (idx_ok (by omega)) | (refine or1 (fun hz => pre_ok (by simp at hz; omega) (by omega) (by omega))) | exact pre_ok (by omega) (by omega) (by omega) | (simp_all [idxOk, cutOk, leB]; done) | (simp_all [idxOk, cutOk, leB]; omega) | (simp [idxOk, cutOk, leB] at *; omega) | (have hf0 := h_x0.1; simp only [leB, decide_eq_true_eq, List.length_append, List.length_cons, List.length_nil]; omega)) (StE.ifh (fun hc1 => (StE.ret _)) (fun hc1 => StE.next)))) (fun j hj => by
 simp only [slices_Index_impl_Ref.l0.eq_2]
 exact Evt.f (ge_lt hj) (Evt.self _))) (fun _ => rfl) (Evt.self _))
def slices_Contains_impl_Ref_v (x0 : List Ref) (x1 : Ref) : Bool := (decide (0 ≤ (slices_Index_impl_Ref_v x0 x1)))
theorem slices_Contains_impl_Ref_ev (x0 : List Ref) (x1 : Ref) (h_x0 : (Lm smRef) x0) : Evt (fun k => slices_Contains_impl_Ref.f k x0 x1) (slices_Contains_impl_Ref_v x0 x1) :=
 (Evt.bind (slices_Index_impl_Ref_ev x0 x1 (h_x0)) (Evt.self _))
theorem slices_Contains_impl_Ref_any (x0 : List Ref) (x1 : Ref) : slices_Contains_impl_Ref_v x0 x1 = (List.range' 0 (x0.length - 0)).any (fun (i0 : Nat) => ((x1.fTx == ((gt x0 (i0 : Int)).fTx)) && (x1.fAt == ((gt x0 (i0 : Int)).fAt)))) := idx_any _ _
def impl_TxFault_v (x0 : Tx) : Int := (bif ((!(impl_within_v x0.fKind 0 2)) || ((x0.fKind == 0) != (x0.fMember == 0))) then 1 else (bif ((x0.fMember != 0) && (!(bif (x0.fMember != 0) then (impl_isKey_v x0.fMember) else default))) then 3 else (bif ((impl_TxFault_1_v (x0.fIns.length : Int)) || (bif (!(impl_TxFault_1_v (x0.fIns.length : Int))) then (impl_TxFault_1_v (x0.fOuts.length : Int)) else default)) then 2 else (onO ((List.range' 0 (x0.fIns.length - 0)).findSome? (fun (i0 : Nat) => (bif !(impl_isRef_v (gt x0.fIns (i0 : Int))) then (some 3) else (bif (slices_Contains_impl_Ref_v (x0.fIns.take ((i0 : Int)).toNat) (gt x0.fIns (i0 : Int))) then (some 7) else none)))) (fun r => r) (onO ((List.range' 0 (x0.fOuts.length - 0)).findSome? (fun (i3 : Nat) => (bif ((impl_outFault_v (gt x0.fOuts (i3 : Int))) != 0) then (some (impl_outFault_v (gt x0.fOuts (i3 : Int)))) else none))) (fun r => r) (bif ((x0.fKind == 1) && (decide (((gt x0.fOuts (0 : Int)).fValue) < 100))) then 8 else 0))))))
theorem impl_TxFault_ev (x0 : Tx) (h_x0 : smTx x0) : Evt (fun k => impl_TxFault.f k x0) (impl_TxFault_v x0) :=
 (Evt.bind (impl_within_ev x0.fKind 0 2) (Evt.ifh (fun hc8 => (Evt.self _)) (fun hc8 => (Evt.bind (Evt.ifh (fun _ => (impl_isKey_ev x0.fMember)) (fun _ => Evt.self _)) (Evt.ifh (fun hc7 => (Evt.self _)) (fun hc7 => (Evt.bind (impl_TxFault_1_ev (x0.fIns.length : Int)) (Evt.bind (Evt.ifh (fun _ => (impl_TxFault_1_ev (x0.fOuts.length : Int))) (fun _ => Evt.self _)) (Evt.ifh (fun hc6 => (Evt.self _)) (fun hc6 => (Evt.loop (r' := fun r => r) (Evt.srch (L := (fun k i => impl_TxFault.l0 x0 k i)) 0 x0.fIns.length (by have := h_x0.2.2.1; first | (have := this.1; omega) | omega) (fun (i0 : Nat) => (bif !(impl_isRef_v (gt x0.fIns (i0 : Int))) then (some 3) else (bif (slices_Contains_impl_Ref_v (x0.fIns.take ((i0 : Int)).toNat) (gt x0.fIns (i0 : Int))) then (some 7) else none))) (fun i0 hs3 hi3 => by
 have hbn : x0.fIns.length ≤ 9223372036854775807 := (by have := h_x0.2.2.1; first | (have := this.1; omega) | omega)
 simp only [impl_TxFault.l0.eq_2]
 exact Evt_t2 (int_lt hi3) (StE.chk (by first | exact idx_ok (by omega) | exact idx_ok (by have hq := len_eq (by assumption); omega) | exact idx_found (show (0 : Int) ≤ (i0 : Int) by simp_all) | exact cut_ok (by omega) | exact or_ok (idx_ok (by omega)) | (refine or1 (fun hz => pre_ok (by simp at hz; omega) (by omega) (by omega))) | exact pre_ok (by omega) (by omega) (by omega) | (simp_all [idxOk, cutOk, leB]; done) | (simp_all [idxOk, cutOk, leB]; omega) | (simp [idxOk, cutOk, leB] at *; omega) | (simp_all [idxOk, impl_TxFault_1_v]; omega) | (have hf0 := h_x0.2.2.1.1; have hf1 := h_x0.2.2.2.1; simp only [leB, decide_eq_true_eq, List.length_append, List.length_cons, List.length_nil]; omega)) (StE.bind (impl_isRef_ev (gt x0.fIns (i0 : Int))) (StE.ifh (fun hc2 => (StE.ret _)) (fun hc2 => (StE.chk (by first | exact idx_ok (by omega) | exact idx_ok (by have hq := len_eq (by assumption); omega) | exact idx_found (by simp_all) | exact cut_ok (by omega) | exact or_ok (idx_ok (by omega)) | (refine or1 (fun hz => pre_ok (by simp at hz; omega) (by omega) (by omega))) | exact pre_ok (by omega) (by omega) (by omega) | (simp_all [idxOk, cutOk, leB]; done) | (simp_all [idxOk, cutOk, leB]; omega) | (simp [idxOk, cutOk, leB] at *; omega) | (simp_all [idxOk, impl_TxFault_1_v]; omega) | (have hf0 := h_x0.2.2.1.1; have hf1 := h_x0.2.2.2.1; simp only [leB, decide_eq_true_eq, List.length_append, List.length_cons, List.length_nil]; omega)) (StE.bind (slices_Contains_impl_Ref_ev (x0.fIns.take ((i0 : Int)).toNat) (gt x0.fIns (i0 : Int)) ((Lm_take h_x0.2.2.1))) (StE.ifh (fun hc1 => (StE.ret _)) (fun hc1 => StE.next))))))))) (fun j hj => by
 simp only [impl_TxFault.l0.eq_2]
 exact Evt.f (ge_lt hj) (Evt.self _))) (fun _ => rfl) (Evt.loop (r' := fun r => r) (Evt.srch (L := (fun k i => impl_TxFault.l1 x0 k i)) 0 x0.fOuts.length (by have := h_x0.2.2.2; first | (have := this.1; omega) | omega) (fun (i3 : Nat) => (bif ((impl_outFault_v (gt x0.fOuts (i3 : Int))) != 0) then (some (impl_outFault_v (gt x0.fOuts (i3 : Int)))) else none)) (fun i3 hs5 hi5 => by
 have hbn : x0.fOuts.length ≤ 9223372036854775807 := (by have := h_x0.2.2.2; first | (have := this.1; omega) | omega)
 simp only [impl_TxFault.l1.eq_2]
 exact Evt_t2 (int_lt hi5) (StE.chk (by first | exact idx_ok (by omega) | exact idx_ok (by have hq := len_eq (by assumption); omega) | exact idx_found (show (0 : Int) ≤ (i3 : Int) by simp_all) | exact cut_ok (by omega) | exact or_ok (idx_ok (by omega)) | (refine or1 (fun hz => pre_ok (by simp at hz; omega) (by omega) (by omega))) | exact pre_ok (by omega) (by omega) (by omega) | (simp_all [idxOk, cutOk, leB]; done) | (simp_all [idxOk, cutOk, leB]; omega) | (simp [idxOk, cutOk, leB] at *; omega) | (simp_all [idxOk, impl_TxFault_1_v]; omega) | (have hf0 := h_x0.2.2.1.1; have hf1 := h_x0.2.2.2.1; simp only [leB, decide_eq_true_eq, List.length_append, List.length_cons, List.length_nil]; omega)) (StE.bind (impl_outFault_ev (gt x0.fOuts (i3 : Int)) ((h_x0.2.2.2).2 _ (gt_mem (by first | omega | (have hq := len_eq (by assumption); omega) | (simp_all [idxOk, impl_TxFault_1_v]; omega) | (have hf0 := h_x0.2.2.1.1; have hf1 := h_x0.2.2.2.1; simp only [leB, decide_eq_true_eq, List.length_append, List.length_cons, List.length_nil]; omega))))) (StE.ifh (fun hc4 => (StE.ret _)) (fun hc4 => StE.next))))) (fun j hj => by
 simp only [impl_TxFault.l1.eq_2]
 exact Evt.f (ge_lt hj) (Evt.self _))) (fun _ => rfl) (Evt.chk (by first | exact idx_ok (by omega) | exact idx_ok (by have hq := len_eq (by assumption); omega) | exact idx_found (by simp_all) | exact cut_ok (by omega) | exact or_ok (idx_ok (by omega)) | (refine or1 (fun hz => pre_ok (by simp at hz; omega) (by omega) (by omega))) | exact pre_ok (by omega) (by omega) (by omega) | (simp_all [idxOk, cutOk, leB]; done) | (simp_all [idxOk, cutOk, leB]; omega) | (simp [idxOk, cutOk, leB] at *; omega) | (simp_all [idxOk, impl_TxFault_1_v]; omega) | (have hf0 := h_x0.2.2.1.1; have hf1 := h_x0.2.2.2.1; simp only [leB, decide_eq_true_eq, List.length_append, List.length_cons, List.length_nil]; omega)) (Evt.ifh (fun hc5 => (Evt.self _)) (fun hc5 => (Evt.self _))))))))))))))))
theorem contains_ref (xs : List Ref) (x : Ref) : slices_Contains_impl_Ref_v xs x = spec_l3Among_v xs x := by
 have e : (fun i : Nat => (x.fTx == (gt xs (i : Int)).fTx) && (x.fAt == (gt xs (i : Int)).fAt)) = fun i : Nat => ((gt xs (i : Int)).fTx == x.fTx) && ((gt xs (i : Int)).fAt == x.fAt) := by funext i; rw [BEq.comm (a := x.fTx), BEq.comm (a := x.fAt)]
 rw [slices_Contains_impl_Ref_any, e]; simp only [spec_l3Among_v, found_any, bifb]
theorem txFault_same (x0 : Tx) : impl_TxFault_v x0 = spec_l3Fault_v x0 := by
 have e1 : ∀ n : Int, impl_TxFault_1_v n = !(spec_l1In_v n 1 4) := fun n => rng1
 have e2 : ∀ x : Out, (bif ((impl_outFault_v x) != 0) then (some (impl_outFault_v x)) else none) = (bif !(spec_l1In_v x.fValue 1 1000000) then (some 3) else (bif ((spec_l2Fault_v x.fRule) != 0) then (some (spec_l2Fault_v x.fRule)) else none)) := by
  intro x
  have e : impl_outFault_v x = bif !(spec_l1In_v x.fValue 1 1000000) then 3 else spec_l2Fault_v x.fRule := by simp only [impl_outFault_v, ruleFault_same, impl_within_v, spec_l1In_v]
  rw [e]
  cases spec_l1In_v x.fValue 1 1000000 <;> rfl
 have e3 : ∀ n a b : Int, impl_within_v n a b = spec_l1In_v n a b := fun _ _ _ => rfl
 have e4 : ∀ n : Int, impl_isKey_v n = spec_l1Key_v n := fun _ => rfl
 simp only [impl_TxFault_v, spec_l3Fault_v, spec_l3Outs_v, e1, e2, e3, e4, refs_same, contains_ref]
 simp only [bne]
 generalize spec_l1In_v (x0.fIns.length : Int) 1 4 = a
 generalize spec_l1In_v (x0.fOuts.length : Int) 1 4 = b
 generalize spec_l1In_v x0.fKind 0 2 = c
 generalize spec_l1Key_v x0.fMember = d
 generalize (x0.fKind == 0) = e
 generalize (x0.fMember == 0) = f
 cases a <;> cases b <;> cases c <;> cases d <;> cases e <;> cases f <;> rfl
theorem among_iff (xs : List Ref) (x : Ref) : spec_l3Among_v xs x = true ↔ x ∈ xs := by
 unfold spec_l3Among_v
 rw [found_any]
 constructor
 ·intro h
  rw [bifb, List.any_eq_true] at h
  obtain ⟨i, hi, hp⟩ := h
  have hlt : i < xs.length := by rw [List.mem_range'_1] at hi; omega
  rw [Bool.and_eq_true, beq_iff_eq, beq_iff_eq] at hp
  have : gt xs (i : Int) = x := by
   cases hq : gt xs (i : Int); cases x
   rw [hq] at hp
   simp only at hp
   rw [hp.1, hp.2]
  rw [← this]; exact gt_mem hlt
 ·intro h
  obtain ⟨i, hi, rfl⟩ := List.getElem_of_mem h
  rw [bifb, List.any_eq_true]
  refine ⟨i, by rw [List.mem_range'_1]; omega, ?_⟩
  rw [gt_eq (by simpa using hi)]
  simp
theorem nodup_of_among {xs : List Ref} (h : ∀ i, i < xs.length → spec_l3Among_v (xs.take i) (gt xs (i : Int)) = false) : xs.Nodup := by
 unfold List.Nodup
 rw [List.pairwise_iff_getElem]
 intro i j hi hj hij e
 have := h j hj
 rw [gt_eq (by simpa using hj)] at this
 simp only [Int.toNat_natCast] at this
 have hm : xs[j] ∈ xs.take j := by
  rw [← e, List.mem_take_iff_getElem]
  exact ⟨i, by omega, rfl⟩
 rw [(among_iff _ _).2 hm] at this
 cases this
theorem sub_len {α : Type} : ∀ {l m : List α}, l.Nodup → (∀ a ∈ l, a ∈ m) → l.length ≤ m.length
 | [], m, _, _ => by simp
 | a :: l, m, h, hs => by
  rw [List.nodup_cons] at h
  obtain ⟨s, t, rfl⟩ := List.append_of_mem (hs a (by simp))
  have := sub_len (m := s ++ t) h.2 (fun b hb => by
   have hb' := hs b (by simp [hb])
   rcases List.mem_append.1 hb' with hb' | hb'
   ·exact List.mem_append_left _ hb'
   ·rcases List.mem_cons.1 hb' with rfl | hb'
    ·exact absurd hb h.1
    ·exact List.mem_append_right _ hb')
  simp at this ⊢; omega
structure TxIns (t : Tx) : Prop where
 ins1 : 1 ≤ t.fIns.length
 ins4 : t.fIns.length ≤ 4
 outs1 : 1 ≤ t.fOuts.length
 outs4 : t.fOuts.length ≤ 4
 nodup : t.fIns.Nodup
 outs : ∀ o ∈ t.fOuts, spec_l4Out_v o = 0
theorem tx_ins (x0 : Tx) (h0 : spec_l3Fault_v x0 = 0) : TxIns x0 := by
 unfold spec_l3Fault_v at h0
 cases hc : ((!(spec_l1In_v x0.fKind 0 2)) || ((x0.fKind == 0) != (x0.fMember == 0)))
 ·rw [hc] at h0
  cases hd : ((x0.fKind != 0) && (!(bif (x0.fKind != 0) then (spec_l1Key_v x0.fMember) else default)))
  ·rw [hd] at h0
   cases he : ((!(spec_l1In_v (x0.fIns.length : Int) 1 4)) || (!(bif (!(!(spec_l1In_v (x0.fIns.length : Int) 1 4))) then (spec_l1In_v (x0.fOuts.length : Int) 1 4) else default)))
   ·rw [he] at h0
    have h1 : onO ((List.range' 0 (x0.fIns.length - 0)).findSome? (fun (i0 : Nat) => (bif !(spec_l3Ref_v (gt x0.fIns (i0 : Int))) then (some (3 : Int)) else (bif (spec_l3Among_v (x0.fIns.take ((i0 : Int)).toNat) (gt x0.fIns (i0 : Int))) then (some 7) else none)))) (fun r => r) (spec_l3Outs_v x0) = 0 := h0
    obtain ⟨h2, h3⟩ := onO_zero h1 (fun i => by
     cases spec_l3Ref_v (gt x0.fIns (i : Int))
     ·simp
     ·cases spec_l3Among_v (x0.fIns.take ((i : Int)).toNat) (gt x0.fIns (i : Int)) <;> simp)
    have hk := fs_all h2
    unfold spec_l3Outs_v at h3
    obtain ⟨h4, _⟩ := onO_zero h3 (fun i => by
     cases spec_l1In_v ((gt x0.fOuts (i : Int)).fValue) 1 1000000
     ·simp
     ·cases hq : spec_l2Fault_v ((gt x0.fOuts (i : Int)).fRule) != 0
      ·simp
      ·simp only [Bool.not_true, cond_false, cond_true]
       intro e
       rw [Option.some.inj e] at hq; cases hq)
    have hl := fs_all h4
    simp only [spec_l1In_v, Bool.or_eq_false_iff, Bool.not_eq_false', Bool.and_eq_true, decide_eq_true_eq] at he
    obtain ⟨he1, he2⟩ := he
    have he3 : 1 ≤ (x0.fOuts.length : Int) ∧ (x0.fOuts.length : Int) ≤ 4 := by
     have e : (decide (1 ≤ (x0.fIns.length : Int)) && decide ((x0.fIns.length : Int) ≤ 4)) = true := by rw [Bool.and_eq_true, decide_eq_true_eq, decide_eq_true_eq]; exact he1
     rw [e] at he2
     have he2' : (decide (1 ≤ (x0.fOuts.length : Int)) && decide ((x0.fOuts.length : Int) ≤ 4)) = true := he2
     rwa [Bool.and_eq_true, decide_eq_true_eq, decide_eq_true_eq] at he2'
    refine ⟨by omega, by omega, by omega, by omega, nodup_of_among fun i hi => ?_, fun o ho => ?_⟩
    ·have h5 := hk i hi
     cases hr : spec_l3Ref_v (gt x0.fIns (i : Int))
     ·rw [hr] at h5; cases h5
     ·rw [hr] at h5
      simp only [Int.toNat_natCast, Bool.not_true, cond_false] at h5
      cases ha : spec_l3Among_v (x0.fIns.take i) (gt x0.fIns (i : Int))
      ·rfl
      ·rw [ha] at h5; cases h5
    ·obtain ⟨i, hi, rfl⟩ := List.getElem_of_mem ho
     have h5 := hl i hi
     rw [gt_eq (by simpa using hi)] at h5
     simp only [Int.toNat_natCast] at h5
     unfold spec_l4Out_v
     cases h6 : spec_l1In_v x0.fOuts[i].fValue 1 1000000
     ·rw [h6] at h5; cases h5
     ·rw [h6] at h5
      cases h7 : spec_l2Fault_v x0.fOuts[i].fRule != 0
      ·simpa using h7
      ·rw [h7] at h5; cases h5
   ·rw [he] at h0; exact absurd (show (2 : Int) = 0 from h0) (by decide)
  ·rw [hd] at h0; exact absurd (show (3 : Int) = 0 from h0) (by decide)
 ·rw [hc] at h0; exact absurd (show (1 : Int) = 0 from h0) (by decide)
def cnd (x0 : List Coin) (r : Ref) : Coin := gt x0 (impl_findCoin_v x0 r).1
theorem spent_filter (x0 : List Coin) (ins : List Ref) : (List.range' 0 (x0.length - 0)).foldl (fun ac1 (i0 : Nat) => (bif (spec_l3Among_v ins ((gt x0 (i0 : Int)).fRef)) then ((ac1 ++ ([(gt x0 (i0 : Int))] : List Coin))) else (ac1))) ([] : List Coin) = x0.filter (fun c => spec_l3Among_v ins c.fRef) := by
 have h := range_foldl x0 (fun ac (c : Coin) => bif spec_l3Among_v ins c.fRef then ac ++ [c] else ac) []
 refine Eq.trans h ?_
 have key : ∀ (xs ac : List Coin), xs.foldl (fun ac (c : Coin) => bif spec_l3Among_v ins c.fRef then ac ++ [c] else ac) ac = ac ++ xs.filter (fun c => spec_l3Among_v ins c.fRef) := by
  intro xs
  induction xs with
  | nil => intro ac; simp
  | cons a xs ih =>
   intro ac
   rw [List.foldl_cons, ih, List.filter_cons]
   cases spec_l3Among_v ins a.fRef <;> simp
 rw [key]; simp
def spentOf (x0 : List Coin) (ins : List Ref) : List Coin := x0.filter (fun c => spec_l3Among_v ins c.fRef)
theorem spent_mem {x0 : List Coin} {ins : List Ref} {c : Coin} (h : c ∈ spentOf x0 ins) : c ∈ x0 := (List.mem_filter.1 h).1
theorem spent_rise {x0 : List Coin} (h : Rise x0) (ins : List Ref) : Rise (spentOf x0 ins) := h.sub List.filter_sublist
theorem rise_nodup {xs : List Coin} (h : Rise xs) : xs.Nodup ∧ (xs.map (·.fRef)).Nodup := by
 refine ⟨h.2.imp fun {a b} hab e => ?_, ?_⟩
 ·subst e; unfold lexL at hab; omega
 ·unfold List.Nodup
  rw [List.pairwise_map]
  refine h.2.imp fun {a b} hab e => ?_
  rw [e] at hab; unfold lexL at hab; omega
theorem spent_perm {x0 : List Coin} (h : Rise x0) {ins : List Ref} (hn : ins.Nodup) (hall : ∀ r ∈ ins, (impl_findCoin_v x0 r).2 = true) : (ins.map (cnd x0)).Perm (spentOf x0 ins) := by
 have hmap : (ins.map (cnd x0)).map (·.fRef) = ins := by
  rw [List.map_map]
  conv => rhs; rw [← List.map_id ins]
  exact List.map_congr_left fun r hr => (find_yes h (hall r hr)).2
 have hn1 : (ins.map (cnd x0)).Nodup := by
  have : ((ins.map (cnd x0)).map (·.fRef)).Nodup := by rw [hmap]; exact hn
  unfold List.Nodup at this ⊢
  rw [List.pairwise_map] at this
  exact this.imp fun hab e => hab (by rw [e])
 rw [List.perm_ext_iff_of_nodup hn1 (rise_nodup (spent_rise h ins)).1]
 intro c
 constructor
 ·intro hc
  obtain ⟨r, hr, rfl⟩ := List.mem_map.1 hc
  obtain ⟨h1, h2⟩ := find_yes h (hall r hr)
  unfold spentOf
  rw [List.mem_filter]
  exact ⟨h1, (among_iff _ _).2 (by show (gt x0 (impl_findCoin_v x0 r).1).fRef ∈ ins; rw [h2]; exact hr)⟩
 ·intro hc
  unfold spentOf at hc
  rw [List.mem_filter] at hc
  have hr := (among_iff _ _).1 hc.2
  obtain ⟨h1, h2⟩ := find_yes h (hall _ hr)
  refine List.mem_map.2 ⟨c.fRef, hr, ?_⟩
  have hk := rise_keys h.2
  exact key_inj hk _ h1 c hc.1 (by show ((gt x0 (impl_findCoin_v x0 c.fRef).1).fRef.fTx, (gt x0 (impl_findCoin_v x0 c.fRef).1).fRef.fAt) = (c.fRef.fTx, c.fRef.fAt); rw [h2])
theorem spent_len {x0 : List Coin} (h : Rise x0) {ins : List Ref} (hn : ins.Nodup) : (((spentOf x0 ins).length : Int) == (ins.length : Int)) = ins.all (fun r => (impl_findCoin_v x0 r).2) := by
 cases ha : ins.all (fun r => (impl_findCoin_v x0 r).2)
 ·have hex : ∃ r ∈ ins, (impl_findCoin_v x0 r).2 = false := by
   rw [List.all_eq_false] at ha
   obtain ⟨r, hr, hf⟩ := ha
   exact ⟨r, hr, by simpa using hf⟩
  obtain ⟨r, hr, hf⟩ := hex
  have hno := find_no h hf
  have hl : (r :: (spentOf x0 ins).map (·.fRef)).length ≤ ins.length := sub_len (by
   rw [List.nodup_cons]
   refine ⟨fun hm => ?_, (rise_nodup (spent_rise h ins)).2⟩
   obtain ⟨c, hc, e⟩ := List.mem_map.1 hm
   exact hno c (spent_mem hc) e) (fun a ham => by
   rcases List.mem_cons.1 ham with rfl | ham
   ·exact hr
   ·obtain ⟨c, hc, rfl⟩ := List.mem_map.1 ham
    unfold spentOf at hc
    rw [List.mem_filter] at hc
    exact (among_iff _ _).1 hc.2)
  rw [List.length_cons, List.length_map] at hl
  simp; omega
 ·have hall : ∀ r ∈ ins, (impl_findCoin_v x0 r).2 = true := fun r hr => List.all_eq_true.1 ha r hr
  have := (spent_perm h hn hall).length_eq
  rw [List.length_map] at this
  rw [this]; simp
theorem spent_loop (x0 : List Coin) (x1 : Tx) (h_x0 : Lm smCoin x0) (hn : x1.fIns.length ≤ 1048576) : ∀ (d i : Nat) (s : List Coin), i + d = x1.fIns.length → s.length ≤ i → Evt (fun k => impl_spentBy.l0 x0 x1 k s (i : Int)) (bif (x1.fIns.drop i).all (fun r => (impl_findCoin_v x0 r).2) then .inr (s ++ (x1.fIns.drop i).map (cnd x0)) else .inl ([], 4))
 | 0, i, s, hi, hs => by
  refine Evt.s ?_
  simp only [impl_spentBy.l0.eq_2]
  rw [List.drop_of_length_le (by omega)]
  exact Evt.f (ge_lt (by omega)) (Evt.ret (by simp))
 | d + 1, i, s, hi, hs => by
  have hlt : i < x1.fIns.length := by omega
  have hg : gt x1.fIns (i : Int) = x1.fIns[i] := gt_eq (by simpa using hlt)
  have ed : x1.fIns.drop i = x1.fIns[i] :: x1.fIns.drop (i + 1) := List.drop_eq_getElem_cons hlt
  refine Evt.s ?_
  simp only [impl_spentBy.l0.eq_2, hg]
  rw [ed, List.all_cons, List.map_cons]
  refine Evt.t (int_lt hlt) (Evt.chk (idx_ok hlt) (Evt.bind (impl_findCoin_ev x0 x1.fIns[i] h_x0) ?_))
  cases hf : (impl_findCoin_v x0 x1.fIns[i]).2
  ·exact Evt.t rfl (Evt.ret (by simp))
  ·have hin := findCoin_in x0 x1.fIns[i] (by rw [hf]; rfl)
   refine Evt.f rfl (Evt.chk hin (Evt.chk (leB_of (by simp; omega)) ?_))
   rw [w64 hlt (by omega)]
   refine (spent_loop x0 x1 h_x0 hn d (i + 1) _ (by omega) (by simp; omega)).to ?_
   rw [Bool.true_and]
   simp only [List.append_assoc, List.cons_append, List.nil_append]
   rfl
def impl_spentBy_v (x0 : List Coin) (x1 : Tx) : (List Coin) × Int := bif x1.fIns.all (fun r => (impl_findCoin_v x0 r).2) then (spentOf x0 x1.fIns, 0) else ([], 4)
theorem impl_spentBy_ev (x0 : List Coin) (x1 : Tx) (h_x0 : Lm smCoin x0) (h_x1 : smTx x1) (hr : Rise x0) (ht : spec_l3Fault_v x1 = 0) : Evt (fun k => impl_spentBy.f k x0 x1) (impl_spentBy_v x0 x1) := by
 have hti := tx_ins x1 ht
 have hl := spent_loop x0 x1 h_x0 (by have := hti.ins4; omega) x1.fIns.length 0 [] (by omega) (by simp)
 rw [List.drop_zero, List.nil_append] at hl
 unfold impl_spentBy_v
 cases ha : x1.fIns.all (fun r => (impl_findCoin_v x0 r).2)
 ·rw [ha] at hl
  exact Evt.bind hl (Evt.self _)
 ·rw [ha] at hl
  have hall : ∀ r ∈ x1.fIns, (impl_findCoin_v x0 r).2 = true := fun r hr => List.all_eq_true.1 ha r hr
  have hp := spent_perm hr hti.nodup hall
  have hsl : (x1.fIns.map (cnd x0)).length ≤ 4 := by rw [List.length_map]; exact hti.ins4
  have hsm : Lm smCoin (x1.fIns.map (cnd x0)) := ⟨by omega, fun c hc => h_x0.2 c (spent_mem (hp.mem_iff.1 hc))⟩
  have eo := impl_ownCoins_ev _ hsm
  rw [ownCoins_id] at eo
  have hs := sort_uniq hp.symm (spent_rise hr x1.fIns).2
  have es := sorted_ev (x1.fIns.map (cnd x0)) (by omega) (((hp.map refKey).nodup_iff).2 (rise_keys (spent_rise hr x1.fIns).2))
  rw [hs] at es
  exact Evt.bind hl (Evt.bind eo (Evt.bind es (Evt.self _)))
theorem findCoin_rise (x0 : List Coin) (x1 : Ref) (rise : ∀ a b : Nat, a < b → b < x0.length → lexL (gt x0 (a : Int)).fRef (gt x0 (b : Int)).fRef) : spec_l4At_v x0 x1 = bif (impl_findCoin_v x0 x1).2 then (impl_findCoin_v x0 x1).1 else -1 := by
 have hc0 : ∀ i : Nat, impl_findCoin_1_v (gt x0 (i : Int)) x1 = 0 ↔ (gt x0 (i : Int)).fRef.fTx = x1.fTx ∧ (gt x0 (i : Int)).fRef.fAt = x1.fAt := fun i => compareRefs_zero _ _
 have hcl : ∀ i : Nat, impl_findCoin_1_v (gt x0 (i : Int)) x1 < 0 ↔ lexL (gt x0 (i : Int)).fRef x1 := fun i => compareRefs_lt _ _
 have key := bs_find x0.length (fun i => impl_findCoin_1_v (gt x0 (i : Int)) x1) (fun a b hab hb hlt => by
  rw [hcl] at hlt ⊢
  rcases Nat.lt_or_eq_of_le hab with h1 | h1
  ·exact lex_trans (rise a b h1 hb) hlt
  ·subst h1; exact hlt) (fun a b hab hb h0 => by
  rw [hc0] at h0
  rw [hcl]
  have := rise a b hab hb
  unfold lexL at *; omega) default
 have e : (fun i : Nat => bif (((gt x0 (i : Int)).fRef.fTx == x1.fTx) && ((gt x0 (i : Int)).fRef.fAt == x1.fAt)) then some (i : Int) else none) = fun i : Nat => bif impl_findCoin_1_v (gt x0 (i : Int)) x1 == 0 then some (i : Int) else none := by
  funext i
  have : (((gt x0 (i : Int)).fRef.fTx == x1.fTx) && ((gt x0 (i : Int)).fRef.fAt == x1.fAt)) = (impl_findCoin_1_v (gt x0 (i : Int)) x1 == 0) := by
   rw [Bool.eq_iff_iff, Bool.and_eq_true, beq_iff_eq, beq_iff_eq, beq_iff_eq]; exact (hc0 i).symm
  rw [this]
 show onO ((List.range' 0 (x0.length - 0)).findSome? (fun i : Nat => bif (((gt x0 (i : Int)).fRef.fTx == x1.fTx) && ((gt x0 (i : Int)).fRef.fAt == x1.fAt)) then some (i : Int) else none)) (fun r => r) (-1) = _
 rw [e, key]
 show onO (bif (impl_findCoin_v x0 x1).2 then some (impl_findCoin_v x0 x1).1 else none) _ _ = _
 cases (impl_findCoin_v x0 x1).2 <;> rfl
theorem at_shape {R : Type} (b : Bool) (i : Int) (A : R) (B : Int → R) (hi : b = true → 0 ≤ i) : (bif !b then A else B i) = (bif decide ((bif b then i else (-1)) < 0) then A else B (bif b then i else (-1))) := by
 cases b
 ·rfl
 ·have h := hi rfl
  have e : decide (i < 0) = false := decide_eq_false (by omega)
  show B i = bif decide (i < 0) then A else B i
  rw [e]; rfl
theorem takeG_same (s : List Coin) (r : Ref) (h : Rise s) : takeG2 s r = takeG1 s r := by
 unfold takeG2 takeG1
 rw [findCoin_rise s r h.lt]
 have hin := findCoin_in s r
 have hl := h.1
 generalize impl_findCoin_v s r = q at hin ⊢
 have e : (bif !q.2 then none else some (slices_Delete_impl_Coin_v s q.1 (wrap64 (q.1 + 1)))) = (bif !q.2 then none else some (s.take q.1.toNat ++ s.drop (wrap64 (q.1 + 1)).toNat)) := by
  cases hb : q.2
  ·simp only [Bool.not_false, cond_true]
  ·have h3 := hin (by rw [hb]; rfl)
   have h4 := idx_lo h3
   have h5 := idx_hi h3
   have ew : wrap64 (q.1 + 1) = q.1 + 1 := wrap64_in _ (by omega)
   have e2 : (q.1 == q.1 + 1) = false := by simp; omega
   rw [ew]
   unfold slices_Delete_impl_Coin_v
   rw [e2]
   simp only [Bool.not_true, cond_false]
 rw [e]
 exact at_shape q.2 q.1 none (fun t => some (s.take t.toNat ++ s.drop (wrap64 (t + 1)).toNat)) (fun hb => idx_lo (hin (by rw [hb]; rfl)))
theorem takeG2_sub (s : List Coin) (r : Ref) (t : List Coin) (hs : Rise s) (h : takeG2 s r = some t) : Rise t := by
 unfold takeG2 at h
 cases hc : !(impl_findCoin_v s r).2
 ·rw [hc] at h
  have h2 : slices_Delete_impl_Coin_v s (impl_findCoin_v s r).1 (wrap64 ((impl_findCoin_v s r).1 + 1)) = t := Option.some.inj h
  subst h2
  have h3 := findCoin_in s r hc
  unfold slices_Delete_impl_Coin_v
  cases (impl_findCoin_v s r).1 == wrap64 ((impl_findCoin_v s r).1 + 1)
  ·exact hs.sub (cut_sub s (cut_hi (cut_self h3 hs.1)))
  ·exact hs
 ·rw [hc] at h; cases h
theorem take_same {x0 : List Coin} (hr : Rise x0) (rs : List Ref) : (impl_takeCoins_v x0 rs).1 = (spec_l4Take_v x0 rs).1 := by
 have e := stepAll_same (g := takeG2) (g' := takeG1) (I := Rise) takeG2_sub takeG_same rs x0 hr
 unfold impl_takeCoins_v spec_l4Take_v
 rw [ownCoins_id, l4Copy_id, e]
 cases stepAll takeG1 x0 rs with
 | none => rfl
 | some t => rfl
theorem stepAll_rel {σ τ : Type} {g : σ → τ → Option σ} {I : σ → Prop} {R : σ → σ → Prop} (hrefl : ∀ s, R s s) (htr : ∀ a b c, R a b → R b c → R a c) (pres : ∀ s r t, I s → g s r = some t → I t ∧ R t s) : ∀ (rs : List τ) (s t : σ), I s → stepAll g s rs = some t → I t ∧ R t s
 | [], s, t, hi, h => by
  have : s = t := Option.some.inj h
  subst this; exact ⟨hi, hrefl _⟩
 | r :: rs, s, t, hi, h => by
  simp only [stepAll] at h
  cases hg : g s r with
  | none => rw [hg] at h; cases h
  | some u =>
   rw [hg] at h
   obtain ⟨h1, h2⟩ := pres s r u hi hg
   obtain ⟨h3, h4⟩ := stepAll_rel hrefl htr pres rs u t h1 h
   exact ⟨h3, htr _ _ _ h4 h2⟩
theorem takeG2_sublist (s : List Coin) (r : Ref) (t : List Coin) (hs : Rise s) (h : takeG2 s r = some t) : Rise t ∧ t.Sublist s := by
 refine ⟨takeG2_sub s r t hs h, ?_⟩
 unfold takeG2 at h
 cases hc : !(impl_findCoin_v s r).2
 ·rw [hc] at h
  have h2 : slices_Delete_impl_Coin_v s (impl_findCoin_v s r).1 (wrap64 ((impl_findCoin_v s r).1 + 1)) = t := Option.some.inj h
  subst h2
  have h3 := findCoin_in s r hc
  unfold slices_Delete_impl_Coin_v
  cases (impl_findCoin_v s r).1 == wrap64 ((impl_findCoin_v s r).1 + 1)
  ·exact cut_sub s (cut_hi (cut_self h3 hs.1))
  ·exact List.Sublist.refl _
 ·rw [hc] at h; cases h
theorem take_sub {x0 : List Coin} (hr : Rise x0) (rs : List Ref) : Rise (impl_takeCoins_v x0 rs).1 ∧ ((impl_takeCoins_v x0 rs).1).Sublist x0 := by
 unfold impl_takeCoins_v
 rw [ownCoins_id]
 cases hs : stepAll takeG2 x0 rs with
 | none => exact ⟨⟨by simp, .nil⟩, List.nil_sublist _⟩
 | some t => exact stepAll_rel (I := Rise) (R := List.Sublist) List.Sublist.refl (fun a b c h k => h.trans k) takeG2_sublist rs x0 t hr hs
theorem take_fault {x0 : List Coin} (h0 : Lm smCoin x0) (h : spec_l4Fault_v x0 = 0) (rs : List Ref) : spec_l4Fault_v (impl_takeCoins_v x0 rs).1 = 0 ∧ Lm smCoin (impl_takeCoins_v x0 rs).1 := by
 obtain ⟨h1, h2⟩ := take_sub (rise_of h0 h) rs
 exact ⟨fault_of (Nat.le_trans h2.length_le (fault_len h)) (fun c hc => fault_parts h c (h2.subset hc)) h1, Lm_sub h0 h2⟩
def impl_spendTx_v (x0 : List Coin) (x1 : Tx) (x2 x3 : Int) : (List Coin) × Int := bif ((impl_spentBy_v x0 x1).2 != 0) then ([], (impl_spentBy_v x0 x1).2) else bif impl_hasTx_v x0 x2 then ([], 7) else impl_putCoins_v (impl_takeCoins_v x0 x1.fIns).1 x2 x1.fOuts x3 false
theorem impl_spendTx_ev (x0 : List Coin) (x1 : Tx) (x2 x3 : Int) (h_x0 : Lm smCoin x0) (h_x1 : smTx x1) (h0 : spec_l4Fault_v x0 = 0) (h1 : spec_l3Fault_v x1 = 0) : Evt (fun k => impl_spendTx.f k x0 x1 x2 x3) (impl_spendTx_v x0 x1 x2 x3) := by
 have hr := rise_of h_x0 h0
 obtain ⟨f1, f2⟩ := take_fault h_x0 h0 x1.fIns
 refine Evt.bind (impl_spentBy_ev x0 x1 h_x0 h_x1 hr h1) (Evt.ifh (fun _ => Evt.self _) (fun _ => Evt.bind (impl_hasTx_ev x0 x2 h_x0) (Evt.ifh (fun _ => Evt.self _) (fun _ => ?_))))
 exact Evt.bind (impl_takeCoins_ev x0 x1.fIns h_x0 h_x1.2.2.1) (Evt.bind (impl_putCoins_ev _ x2 x1.fOuts x3 false f2 h_x1.2.2.2 (take_sub hr x1.fIns).1 (fault_len f1)) (Evt.self _))
def impl_SpendTx_v (x0 : List Coin) (x1 : Tx) (x2 x3 : Int) : CoinsResult := bif (impl_CoinsFault_v x0 != 0) then ⟨impl_CoinsFault_v x0, []⟩ else bif (impl_TxFault_v x1 != 0) then ⟨impl_TxFault_v x1, []⟩ else ⟨(impl_spendTx_v x0 x1 x2 x3).2, (impl_spendTx_v x0 x1 x2 x3).1⟩
theorem impl_SpendTx_ev (x0 : List Coin) (x1 : Tx) (x2 x3 : Int) (h_x0 : Lm smCoin x0) (h_x1 : smTx x1) : Evt (fun k => impl_SpendTx.f k x0 x1 x2 x3) (impl_SpendTx_v x0 x1 x2 x3) := by
 refine Evt.bind (impl_CoinsFault_ev x0 h_x0) (Evt.ifh (fun hc => Evt.self _) (fun hc => Evt.bind (impl_TxFault_ev x1 h_x1) (Evt.ifh (fun hd => Evt.self _) (fun hd => ?_))))
 rw [coinsFault_same] at hc
 rw [txFault_same] at hd
 exact Evt.bind (impl_spendTx_ev x0 x1 x2 x3 h_x0 h_x1 (by simpa using hc) (by simpa using hd)) (Evt.self _)
def impl_SpentBy_v (x0 : List Coin) (x1 : Tx) : CoinsResult := bif (impl_CoinsFault_v x0 != 0) then ⟨impl_CoinsFault_v x0, []⟩ else bif (impl_TxFault_v x1 != 0) then ⟨impl_TxFault_v x1, []⟩ else ⟨(impl_spentBy_v x0 x1).2, (impl_spentBy_v x0 x1).1⟩
theorem impl_SpentBy_ev (x0 : List Coin) (x1 : Tx) (h_x0 : Lm smCoin x0) (h_x1 : smTx x1) : Evt (fun k => impl_SpentBy.f k x0 x1) (impl_SpentBy_v x0 x1) := by
 refine Evt.bind (impl_CoinsFault_ev x0 h_x0) (Evt.ifh (fun hc => Evt.self _) (fun hc => Evt.bind (impl_TxFault_ev x1 h_x1) (Evt.ifh (fun hd => Evt.self _) (fun hd => ?_))))
 rw [coinsFault_same] at hc
 rw [txFault_same] at hd
 have h0 : spec_l4Fault_v x0 = 0 := by simpa using hc
 have h1 : spec_l3Fault_v x1 = 0 := by simpa using hd
 exact Evt.bind (impl_spentBy_ev x0 x1 h_x0 h_x1 (rise_of h_x0 h0) h1) (Evt.self _)
def impl_areOf_1_v (x0 : Coin) (x1 : List Ref) : Bool := (!(slices_Contains_impl_Ref_v x1 x0.fRef))
theorem impl_areOf_1_ev (x0 : Coin) (x1 : List Ref) (h_x0 : smCoin x0) (h_x1 : (Lm smRef) x1) : Evt (fun k => impl_areOf_1.f k x0 x1) (impl_areOf_1_v x0 x1) :=
 (Evt.bind (slices_Contains_impl_Ref_ev x1 x0.fRef (h_x1)) (Evt.self _))
def slices_IndexFunc_impl_Coin_v2_v (x0 : List Coin) (x1_0 : List Ref) : Int := (onO ((List.range' 0 (x0.length - 0)).findSome? (fun (i0 : Nat) => (bif (impl_areOf_1_v (gt x0 (i0 : Int)) x1_0) then (some (i0 : Int)) else none))) (fun r => r) (-1))
theorem slices_IndexFunc_impl_Coin_v2_ev (x0 : List Coin) (x1_0 : List Ref) (h_x0 : (Lm smCoin) x0) (h_x1_0 : (Lm smRef) x1_0) : Evt (fun k => slices_IndexFunc_impl_Coin_v2.f k x0 x1_0) (slices_IndexFunc_impl_Coin_v2_v x0 x1_0) :=
 (Evt.loop (r' := fun r => r) (Evt.srch (L := (fun k i => slices_IndexFunc_impl_Coin_v2.l0 x0 x1_0 k i)) 0 x0.length (by have := h_x0; first | (have := this.1; omega) | omega) (fun (i0 : Nat) => (bif (impl_areOf_1_v (gt x0 (i0 : Int)) x1_0) then (some (i0 : Int)) else none)) (fun i0 hs2 hi2 => by
 have hbn : x0.length ≤ 9223372036854775807 := (by have := h_x0; first | (have := this.1; omega) | omega)
 simp only [slices_IndexFunc_impl_Coin_v2.l0.eq_2]
 exact Evt_t2 (int_lt hi2) (StE.chk (by first | exact idx_ok (by omega) | exact idx_ok (by have hq := len_eq (by assumption); omega) | exact idx_found (show (0 : Int) ≤ (i0 : Int) by simp_all) | exact cut_ok (by omega) | exact or_ok (idx_ok (by omega)) | (refine or1 (fun hz => pre_ok (by simp at hz; omega) (by omega) (by omega))) | exact pre_ok (by omega) (by omega) (by omega) | (simp_all [idxOk, cutOk, leB]; done) | (simp_all [idxOk, cutOk, leB]; omega) | (simp [idxOk, cutOk, leB] at *; omega) | (have hf0 := h_x0.1; have hf1 := h_x1_0.1; simp only [leB, decide_eq_true_eq, List.length_append, List.length_cons, List.length_nil]; omega)) (StE.bind (impl_areOf_1_ev (gt x0 (i0 : Int)) x1_0 ((h_x0).2 _ (gt_mem (by first | omega | (have hq := len_eq (by assumption); omega) | (have hf0 := h_x0.1; have hf1 := h_x1_0.1; simp only [leB, decide_eq_true_eq, List.length_append, List.length_cons, List.length_nil]; omega)))) (h_x1_0)) (StE.ifh (fun hc1 => (StE.ret _)) (fun hc1 => StE.next))))) (fun j hj => by
 simp only [slices_IndexFunc_impl_Coin_v2.l0.eq_2]
 exact Evt.f (ge_lt hj) (Evt.self _))) (fun _ => rfl) (Evt.self _))
def slices_ContainsFunc_impl_Coin_v2_v (x0 : List Coin) (x1_0 : List Ref) : Bool := (decide (0 ≤ (slices_IndexFunc_impl_Coin_v2_v x0 x1_0)))
theorem slices_ContainsFunc_impl_Coin_v2_ev (x0 : List Coin) (x1_0 : List Ref) (h_x0 : (Lm smCoin) x0) (h_x1_0 : (Lm smRef) x1_0) : Evt (fun k => slices_ContainsFunc_impl_Coin_v2.f k x0 x1_0) (slices_ContainsFunc_impl_Coin_v2_v x0 x1_0) :=
 (Evt.bind (slices_IndexFunc_impl_Coin_v2_ev x0 x1_0 (h_x0) (h_x1_0)) (Evt.self _))
theorem slices_ContainsFunc_impl_Coin_v2_any (x0 : List Coin) (x1_0 : List Ref) : slices_ContainsFunc_impl_Coin_v2_v x0 x1_0 = (List.range' 0 (x0.length - 0)).any (fun (i0 : Nat) => (impl_areOf_1_v (gt x0 (i0 : Int)) x1_0)) := idx_any _ _
def impl_areOf_v (x0 : List Coin) (x1 : List Ref) : Bool := (((x0.length : Int) == (x1.length : Int)) && (!(bif ((x0.length : Int) == (x1.length : Int)) then (slices_ContainsFunc_impl_Coin_v2_v x0 x1) else default)))
theorem impl_areOf_ev (x0 : List Coin) (x1 : List Ref) (h_x0 : (Lm smCoin) x0) (h_x1 : (Lm smRef) x1) : Evt (fun k => impl_areOf.f k x0 x1) (impl_areOf_v x0 x1) :=
 (Evt.bind (Evt.ifh (fun _ => (slices_ContainsFunc_impl_Coin_v2_ev x0 x1 (h_x0) (h_x1))) (fun _ => Evt.self _)) (Evt.self _))
def slices_DeleteFunc_Coin_v (x0 : List Coin) (x1_0 : Int) : List Coin := x0.filter (fun c => c.fRef.fTx == x1_0)
theorem delFunc1_ev (x0 : List Coin) (x1_0 : Int) (h : Lm smCoin x0) : Evt (fun k => slices_DeleteFunc_Coin.f k x0 x1_0) (slices_DeleteFunc_Coin_v x0 x1_0) := Evt.chk (leB_of h.1) (Evt.ret (List.filter_congr fun c _ => by show (!(c.fRef.fTx != x1_0)) = _; simp [bne]))
def ofId (x0 : List Coin) (x2 : Int) : List Coin := x0.filter (fun c => c.fRef.fTx == x2)
theorem bor_n {p d e : Bool} : (p || (!(bif !p then d else e))) = (p || (!d)) := by cases p <;> rfl
def madeFrom (x2 : List Out) : Nat → List Coin → Bool
 | _, [] => true
 | i, c :: r => bif (c.fRef.fAt != (i : Int)) || (!(impl_sameOuts_v c.fOut (gt x2 (i : Int)))) then false else madeFrom x2 (i + 1) r
def impl_areMade_v (x0 : List Coin) (x1 : Int) (x2 : List Out) : Bool := bif ((ofId x0 x1).length : Int) != (x2.length : Int) then false else madeFrom x2 0 (ofId x0 x1)
theorem areMade_loop (x2 : List Out) (own : List Coin) (h2 : Lm smOut x2) (h0 : Lm smCoin own) (hl : own.length = x2.length) : ∀ (d i : Nat), i + d = own.length → Evt (fun k => impl_areMade.l0 x2 own k (i : Int)) (bif madeFrom x2 i (own.drop i) then .inr () else .inl false)
 | 0, i, hd => by
  refine Evt.s ?_
  simp only [impl_areMade.l0.eq_2]
  rw [List.drop_of_length_le (by omega)]
  exact Evt.f (ge_lt (by omega)) (Evt.self _)
 | d + 1, i, hd => by
  have hn := h0.1
  have hi : i < own.length := by omega
  have ed : own.drop i = gt own (i : Int) :: own.drop (i + 1) := by rw [gt_eq (by simpa using hi)]; simp only [Int.toNat_natCast]; exact List.drop_eq_getElem_cons hi
  have hsm := h0.2 _ (gt_mem hi)
  have ih := areMade_loop x2 own h2 h0 hl d (i + 1) (by omega)
  refine Evt.s ?_
  simp only [impl_areMade.l0.eq_2]
  rw [ed, w64 hi (by omega)]
  refine Evt.t (int_lt hi) (Evt.chk (idx_ok hi) (Evt.chk (or_ok (idx_ok (by omega))) (Evt.bind (a := bif !((gt own (i : Int)).fRef.fAt != (i : Int)) then impl_sameOuts_v (gt own (i : Int)).fOut (gt x2 (i : Int)) else default) (Evt.ifh (fun _ => impl_sameOuts_ev _ _ hsm.2.1 (h2.2 _ (gt_mem (by omega)))) (fun _ => Evt.self _)) ?_)))
  rw [bor_n]
  unfold madeFrom
  cases ((gt own (i : Int)).fRef.fAt != (i : Int)) || (!(impl_sameOuts_v (gt own (i : Int)).fOut (gt x2 (i : Int))))
  ·exact Evt.f rfl ih
  ·exact Evt.t rfl (Evt.self _)
theorem ofId_sm {x0 : List Coin} {x1 : Int} (h : Lm smCoin x0) : Lm smCoin (ofId x0 x1) := Lm_sub h List.filter_sublist
theorem impl_areMade_ev (x0 : List Coin) (x1 : Int) (x2 : List Out) (h0 : Lm smCoin x0) (h2 : Lm smOut x2) : Evt (fun k => impl_areMade.f k x0 x1 x2) (impl_areMade_v x0 x1 x2) := by
 have hn := h0.1
 have e1 := delFunc1_ev x0 x1 h0
 refine Evt.bind (a := x0) (Evt.chk (leB_of (by simp; omega)) (Evt.self _)) (Evt.bind e1 ?_)
 show Evt (fun k => bif ((ofId x0 x1).length : Int) != (x2.length : Int) then _ else _) _
 unfold impl_areMade_v
 cases hc : ((ofId x0 x1).length : Int) != (x2.length : Int)
 ·have h := areMade_loop x2 (ofId x0 x1) h2 (ofId_sm h0) (len_eq hc) (ofId x0 x1).length 0 (by omega)
  rw [List.drop_zero] at h
  refine Evt.f rfl ?_
  cases hm : madeFrom x2 0 (ofId x0 x1)
  ·rw [hm] at h; exact Evt.bind h (Evt.self _)
  ·rw [hm] at h; exact Evt.bind h (Evt.self _)
 ·exact Evt.t rfl (Evt.self _)
def impl_undoTx_1_v (x0 : Ref) (x1 : List Coin) : Bool := ((impl_findCoin_v x1 x0).2)
theorem impl_undoTx_1_ev (x0 : Ref) (x1 : List Coin) (h_x1 : (Lm smCoin) x1) : Evt (fun k => impl_undoTx_1.f k x0 x1) (impl_undoTx_1_v x0 x1) :=
 (Evt.bind (impl_findCoin_ev x1 x0 (h_x1)) (Evt.self _))
def slices_IndexFunc_impl_Ref_v (x0 : List Ref) (x1_0 : List Coin) : Int := (onO ((List.range' 0 (x0.length - 0)).findSome? (fun (i0 : Nat) => (bif (impl_undoTx_1_v (gt x0 (i0 : Int)) x1_0) then (some (i0 : Int)) else none))) (fun r => r) (-1))
theorem slices_IndexFunc_impl_Ref_ev (x0 : List Ref) (x1_0 : List Coin) (h_x0 : (Lm smRef) x0) (h_x1_0 : (Lm smCoin) x1_0) : Evt (fun k => slices_IndexFunc_impl_Ref.f k x0 x1_0) (slices_IndexFunc_impl_Ref_v x0 x1_0) :=
 (Evt.loop (r' := fun r => r) (Evt.srch (L := (fun k i => slices_IndexFunc_impl_Ref.l0 x0 x1_0 k i)) 0 x0.length (by have := h_x0; first | (have := this.1; omega) | omega) (fun (i0 : Nat) => (bif (impl_undoTx_1_v (gt x0 (i0 : Int)) x1_0) then (some (i0 : Int)) else none)) (fun i0 hs2 hi2 => by
 have hbn : x0.length ≤ 9223372036854775807 := (by have := h_x0; first | (have := this.1; omega) | omega)
 simp only [slices_IndexFunc_impl_Ref.l0.eq_2]
 exact Evt_t2 (int_lt hi2) (StE.chk (by first | exact idx_ok (by omega) | exact idx_ok (by have hq := len_eq (by assumption); omega) | exact idx_found (show (0 : Int) ≤ (i0 : Int) by simp_all) | exact cut_ok (by omega) | exact or_ok (idx_ok (by omega)) | (refine or1 (fun hz => pre_ok (by simp at hz; omega) (by omega) (by omega))) | exact pre_ok (by omega) (by omega) (by omega) | (simp_all [idxOk, cutOk, leB]; done) | (simp_all [idxOk, cutOk, leB]; omega) | (simp [idxOk, cutOk, leB] at *; omega) | (have hf0 := h_x0.1; have hf1 := h_x1_0.1; simp only [leB, decide_eq_true_eq, List.length_append, List.length_cons, List.length_nil]; omega)) (StE.bind (impl_undoTx_1_ev (gt x0 (i0 : Int)) x1_0 (h_x1_0)) (StE.ifh (fun hc1 => (StE.ret _)) (fun hc1 => StE.next))))) (fun j hj => by
 simp only [slices_IndexFunc_impl_Ref.l0.eq_2]
 exact Evt.f (ge_lt hj) (Evt.self _))) (fun _ => rfl) (Evt.self _))
def slices_ContainsFunc_impl_Ref_v (x0 : List Ref) (x1_0 : List Coin) : Bool := (decide (0 ≤ (slices_IndexFunc_impl_Ref_v x0 x1_0)))
theorem slices_ContainsFunc_impl_Ref_ev (x0 : List Ref) (x1_0 : List Coin) (h_x0 : (Lm smRef) x0) (h_x1_0 : (Lm smCoin) x1_0) : Evt (fun k => slices_ContainsFunc_impl_Ref.f k x0 x1_0) (slices_ContainsFunc_impl_Ref_v x0 x1_0) :=
 (Evt.bind (slices_IndexFunc_impl_Ref_ev x0 x1_0 (h_x0) (h_x1_0)) (Evt.self _))
theorem slices_ContainsFunc_impl_Ref_any (x0 : List Ref) (x1_0 : List Coin) : slices_ContainsFunc_impl_Ref_v x0 x1_0 = (List.range' 0 (x0.length - 0)).any (fun (i0 : Nat) => (impl_undoTx_1_v (gt x0 (i0 : Int)) x1_0)) := idx_any _ _
def slices_DeleteFunc_Coin_v2_v (x0 : List Coin) (x1_0 : Int) : List Coin := x0.filter (fun c => c.fRef.fTx != x1_0)
theorem delFunc2_ev (x0 : List Coin) (x1_0 : Int) (h : Lm smCoin x0) : Evt (fun k => slices_DeleteFunc_Coin_v2.f k x0 x1_0) (slices_DeleteFunc_Coin_v2_v x0 x1_0) := Evt.chk (leB_of h.1) (Evt.ret (List.filter_congr fun c _ => by show (!(c.fRef.fTx == x1_0)) = _; rfl))
theorem rany {α : Type} [Inhabited α] (xs : List α) (p : α → Bool) : (List.range' 0 (xs.length - 0)).any (fun i => p (gt xs (i : Int))) = xs.any p := by
 rw [Bool.eq_iff_iff, List.any_eq_true, List.any_eq_true]
 constructor
 ·rintro ⟨i, hi, hp⟩
  exact ⟨_, gt_mem (in_range hi), hp⟩
 ·rintro ⟨x, hx, hp⟩
  obtain ⟨i, hi, rfl⟩ := List.getElem_of_mem hx
  refine ⟨i, by rw [List.mem_range'_1]; omega, ?_⟩
  rw [gt_eq (by simpa using hi)]
  simpa using hp
def notId (x0 : List Coin) (x1 : Int) : List Coin := x0.filter (fun c => c.fRef.fTx != x1)
def spec_l5Back_v (x0 : List Coin) (x1 : Int) (x2 : List Coin) : List Coin := x2.foldl spec_l4Add_v (notId x0 x1)
theorem l5Back_perm : ∀ (x2 s : List Coin), (x2.foldl spec_l4Add_v s).Perm (s ++ x2)
 | [], s => by simp
 | x :: x2, s => by
  rw [List.foldl_cons]
  refine (l5Back_perm x2 _).trans ?_
  have := (l4Add_perm x s).append_right x2
  simpa using this
theorem notId_sub (x0 : List Coin) (x1 : Int) : (notId x0 x1).Sublist x0 := List.filter_sublist
theorem addAll_rise : ∀ (xs s : List Coin), (s.Pairwise fun a b => lexL a.fRef b.fRef) → (xs.Pairwise fun a b => lexL a.fRef b.fRef) → (∀ c ∈ xs, ∀ d ∈ s, d.fRef ≠ c.fRef) → (xs.foldl spec_l4Add_v s).Pairwise fun a b => lexL a.fRef b.fRef
 | [], s, h, _, _ => h
 | x :: xs, s, h, hx, hd => by
  rw [List.pairwise_cons] at hx
  rw [List.foldl_cons]
  refine addAll_rise xs _ (l4Add_rise x s h fun c hc e => ?_) hx.2 fun c hc d hd' => ?_
  ·have e1 := (Prod.mk.inj (show (c.fRef.fTx, c.fRef.fAt) = (x.fRef.fTx, x.fRef.fAt) from e)).1
   have e2 := (Prod.mk.inj (show (c.fRef.fTx, c.fRef.fAt) = (x.fRef.fTx, x.fRef.fAt) from e)).2
   exact hd x (by simp) c hc (ref_ext e1 e2)
  ·rcases List.mem_append.1 ((l4Add_perm x s).mem_iff.1 hd') with h' | h'
   ·exact hd c (by simp [hc]) d h'
   ·simp at h'; subst h'
    intro e
    have := hx.1 c hc
    rw [e] at this
    unfold lexL at this; omega
theorem back_sort (x0 : List Coin) (x2 : Int) (x3 : List Coin) (hr : Rise x0) (hr3 : Rise x3) (hno : ∀ c ∈ x3, ∀ d ∈ x0, d.fRef ≠ c.fRef) : (spec_l5Back_v x0 x2 x3).Pairwise (fun a b => lexL a.fRef b.fRef) ∧ (notId x0 x2 ++ x3).mergeSort refLe = spec_l5Back_v x0 x2 x3 ∧ ((notId x0 x2 ++ x3).map refKey).Nodup := by
 have h1 : (spec_l5Back_v x0 x2 x3).Pairwise (fun a b => lexL a.fRef b.fRef) := addAll_rise x3 _ (hr.2.sublist (notId_sub x0 x2)) hr3.2 fun c hc d hd => hno c hc d ((notId_sub x0 x2).subset hd)
 have h2 : (spec_l5Back_v x0 x2 x3).Perm (notId x0 x2 ++ x3) := l5Back_perm x3 _
 exact ⟨h1, sort_uniq h2 h1, ((h2.map refKey).nodup_iff).1 (rise_keys h1)⟩
theorem areOf_eq (x3 : List Coin) (ins : List Ref) : impl_areOf_v x3 ins = (((x3.length : Int) == (ins.length : Int)) && x3.all (fun c => spec_l3Among_v ins c.fRef)) := by
 have e : slices_ContainsFunc_impl_Coin_v2_v x3 ins = x3.any (fun c => !(spec_l3Among_v ins c.fRef)) := by
  rw [slices_ContainsFunc_impl_Coin_v2_any]
  simp only [impl_areOf_1_v, contains_ref]
  exact rany x3 (fun c => !(spec_l3Among_v ins c.fRef))
 unfold impl_areOf_v
 rw [e]
 cases ((x3.length : Int) == (ins.length : Int))
 ·rfl
 ·simp only [cond_true, Bool.true_and]
  rw [List.all_eq_not_any_not]
theorem insAny_eq (ins : List Ref) (x0 : List Coin) : slices_ContainsFunc_impl_Ref_v ins x0 = ins.any (fun r => (impl_findCoin_v x0 r).2) := by
 rw [slices_ContainsFunc_impl_Ref_any]
 simp only [impl_undoTx_1_v]
 exact rany ins (fun r => (impl_findCoin_v x0 r).2)
theorem undo_no {x0 x3 : List Coin} {ins : List Ref} (hr : Rise x0) (ha : impl_areOf_v x3 ins = true) (hk : ins.any (fun r => (impl_findCoin_v x0 r).2) = false) : ∀ c ∈ x3, ∀ d ∈ x0, d.fRef ≠ c.fRef := fun c hc d hd e => by
 rw [areOf_eq, Bool.and_eq_true] at ha
 have h1 := (among_iff _ _).1 (List.all_eq_true.1 ha.2 c hc)
 rw [List.any_eq_false] at hk
 have h2 := hk _ h1
 rw [← e] at h2
 exact h2 (find_of hr hd)
def impl_undoTx_v (x0 : List Coin) (x1 : Tx) (x2 : Int) (x3 : List Coin) : (List Coin) × Int := bif !(impl_isId_v x2) then ([], 3) else bif !(impl_areOf_v x3 x1.fIns) then ([], 1) else bif !(impl_areMade_v x0 x2 x1.fOuts) then ([], 4) else bif x1.fIns.any (fun r => (impl_findCoin_v x0 r).2) then ([], 7) else bif decide (40 < ((spec_l5Back_v x0 x2 x3).length : Int)) then ([], 2) else (spec_l5Back_v x0 x2 x3, 0)
theorem impl_undoTx_ev (x0 : List Coin) (x1 : Tx) (x2 : Int) (x3 : List Coin) (h0 : Lm smCoin x0) (h1 : smTx x1) (h3 : Lm smCoin x3) (f0 : spec_l4Fault_v x0 = 0) (f3 : spec_l4Fault_v x3 = 0) : Evt (fun k => impl_undoTx.f k x0 x1 x2 x3) (impl_undoTx_v x0 x1 x2 x3) := by
 have hr := rise_of h0 f0
 have hr3 := rise_of h3 f3
 have l0 := fault_len f0
 have l3 := fault_len f3
 refine Evt.bind (impl_isId_ev x2) (Evt.ifh (fun _ => Evt.self _) (fun _ => Evt.bind (impl_areOf_ev x3 x1.fIns h3 h1.2.2.1) (Evt.ifh (fun _ => Evt.self _) (fun ha => Evt.bind (impl_areMade_ev x0 x2 x1.fOuts h0 h1.2.2.2) (Evt.ifh (fun _ => Evt.self _) (fun _ => Evt.bind ((slices_ContainsFunc_impl_Ref_ev x1.fIns x0 h1.2.2.1 h0).to (insAny_eq _ _)) (Evt.ifh (fun _ => Evt.self _) (fun hk => ?_))))))))
 obtain ⟨_, s2, s3⟩ := back_sort x0 x2 x3 hr hr3 (undo_no hr (notF ha) hk)
 have e0 := impl_ownCoins_ev x0 h0
 rw [ownCoins_id] at e0
 have e3 := impl_ownCoins_ev x3 h3
 rw [ownCoins_id] at e3
 have hn := (notId_sub x0 x2).length_le
 have es := sorted_ev (notId x0 x2 ++ x3) (by rw [List.length_append]; omega) s3
 rw [s2] at es
 exact Evt.bind e0 (Evt.bind (delFunc2_ev x0 x2 h0) (Evt.bind e3 (Evt.chk (leB_of (by show ((notId x0 x2).length + x3.length) * 80 ≤ _; omega)) (Evt.bind es (Evt.if_ (Evt.self _) (Evt.self _))))))
def uk3 (a b c : Int) : CoinsResult ⊕ Unit := bif a != 0 then .inl ⟨a, []⟩ else bif b != 0 then .inl ⟨b, []⟩ else bif c != 0 then .inl ⟨c, []⟩ else .inr ()
theorem uk3_ev (a b c : Int) : Evt (fun k => impl_UndoTx.l0 a b c k 0) (uk3 a b c) := by
 have w0 : wrap64 ((0 : Int) + 1) = 1 := by rw [wrap64_in _ (by omega)]; rfl
 have w1 : wrap64 ((1 : Int) + 1) = 2 := by rw [wrap64_in _ (by omega)]; rfl
 have w2 : wrap64 ((2 : Int) + 1) = 3 := by rw [wrap64_in _ (by omega)]; rfl
 have g0 : gt [a, b, c] (0 : Int) = a := rfl
 have g1 : gt [a, b, c] (1 : Int) = b := rfl
 have g2 : gt [a, b, c] (2 : Int) = c := rfl
 unfold uk3
 refine Evt.s ?_
 simp only [impl_UndoTx.l0.eq_2, g0, w0]
 refine Evt.t rfl (Evt.chk rfl ?_)
 cases a != 0
 ·refine Evt.f rfl (Evt.s ?_)
  simp only [impl_UndoTx.l0.eq_2, g1, w1]
  refine Evt.t rfl (Evt.chk rfl ?_)
  cases b != 0
  ·refine Evt.f rfl (Evt.s ?_)
   simp only [impl_UndoTx.l0.eq_2, g2, w2]
   refine Evt.t rfl (Evt.chk rfl ?_)
   cases c != 0
   ·refine Evt.f rfl (Evt.s ?_)
    simp only [impl_UndoTx.l0.eq_2]
    exact Evt.f rfl (Evt.self _)
   ·exact Evt.t rfl (Evt.self _)
  ·exact Evt.t rfl (Evt.self _)
 ·exact Evt.t rfl (Evt.self _)
def impl_UndoTx_v (x0 : List Coin) (x1 : Tx) (x2 : Int) (x3 : List Coin) : CoinsResult := bif impl_CoinsFault_v x0 != 0 then ⟨impl_CoinsFault_v x0, []⟩ else bif impl_CoinsFault_v x3 != 0 then ⟨impl_CoinsFault_v x3, []⟩ else bif impl_TxFault_v x1 != 0 then ⟨impl_TxFault_v x1, []⟩ else ⟨(impl_undoTx_v x0 x1 x2 x3).2, (impl_undoTx_v x0 x1 x2 x3).1⟩
theorem impl_UndoTx_ev (x0 : List Coin) (x1 : Tx) (x2 : Int) (x3 : List Coin) (h0 : Lm smCoin x0) (h1 : smTx x1) (h3 : Lm smCoin x3) : Evt (fun k => impl_UndoTx.f k x0 x1 x2 x3) (impl_UndoTx_v x0 x1 x2 x3) := by
 refine Evt.bind (a := uk3 (impl_CoinsFault_v x0) (impl_CoinsFault_v x3) (impl_TxFault_v x1)) (Evt.bind (impl_CoinsFault_ev x0 h0) (Evt.bind (impl_CoinsFault_ev x3 h3) (Evt.bind (impl_TxFault_ev x1 h1) (uk3_ev _ _ _)))) ?_
 unfold impl_UndoTx_v uk3
 cases ha : impl_CoinsFault_v x0 != 0
 ·cases hb : impl_CoinsFault_v x3 != 0
  ·cases hc : impl_TxFault_v x1 != 0
   ·rw [coinsFault_same] at ha hb
    exact Evt.bind (impl_undoTx_ev x0 x1 x2 x3 h0 h1 h3 (by simpa using ha) (by simpa using hb)) (Evt.self _)
   ·exact Evt.self _
  ·exact Evt.self _
 ·exact Evt.self _
theorem code_byte {x : Int} (h : iOk .u8 x) : 0 ≤ x ∧ x ≤ 255 := by
 have h' : (decide (IntKind.u8.min ≤ x) && decide (x ≤ IntKind.u8.max)) = true := h
 rw [Bool.and_eq_true, decide_eq_true_eq, decide_eq_true_eq] at h'
 exact h'
theorem l5Spent_is (x0 : List Coin) (x1 : Tx) : spec_l5Spent_v x0 x1 = (spentOf x0 x1.fIns, ((spentOf x0 x1.fIns).length : Int) == (x1.fIns.length : Int)) := by
 unfold spec_l5Spent_v
 rw [spent_filter, l4Copy_id]; rfl
theorem spent_shape (c a : Bool) (S : List Coin) (h : c = a) : (⟨(bif a then (S, (0 : Int)) else (([] : List Coin), 4)).2, (bif a then (S, (0 : Int)) else (([] : List Coin), 4)).1⟩ : CoinsResult) = (bif !c then ⟨4, []⟩ else ⟨0, S⟩) := by
 subst h; cases c <;> rfl
theorem spentBy_eq (x0 : List Coin) (x1 : Tx) (h0 : Lm smCoin x0) (h : spec_l4Fault_v x0 = 0) (h' : spec_l3Fault_v x1 = 0) : (⟨(impl_spentBy_v x0 x1).2, (impl_spentBy_v x0 x1).1⟩ : CoinsResult) = spec_SpentBy_v x0 x1 := by
 have hf : (spec_l4Fault_v x0 != 0) = false := by rw [h]; rfl
 have hg : (spec_l3Fault_v x1 != 0) = false := by rw [h']; rfl
 unfold spec_SpentBy_v impl_spentBy_v
 rw [hf, hg, l5Spent_is]
 simp only [cond_false]
 exact spent_shape _ _ _ (spent_len (rise_of h0 h) (tx_ins x1 h').nodup)
theorem spendTx_eq (x0 : List Coin) (x1 : Tx) (x2 x3 : Int) (h0 : Lm smCoin x0) (h : spec_l4Fault_v x0 = 0) (h' : spec_l3Fault_v x1 = 0) : (⟨(impl_spendTx_v x0 x1 x2 x3).2, (impl_spendTx_v x0 x1 x2 x3).1⟩ : CoinsResult) = spec_SpendTx_v x0 x1 x2 x3 := by
 have hr := rise_of h0 h
 have e1 := spentBy_eq x0 x1 h0 h h'
 obtain ⟨f1, f2⟩ := take_fault h0 h x1.fIns
 unfold impl_spendTx_v spec_SpendTx_v
 rw [← e1, hasTx_same, ← take_same hr, ← putCoins_eq _ x2 x1.fOuts x3 false f2 f1]
 have hs : (impl_spentBy_v x0 x1).2 != 0 → (impl_spentBy_v x0 x1).1 = [] := by
  unfold impl_spentBy_v
  cases x1.fIns.all (fun r => (impl_findCoin_v x0 r).2)
  ·intro _; rfl
  ·intro h; exact absurd (show ((0 : Int) != 0) = true from h) (by decide)
 generalize impl_putCoins_v (impl_takeCoins_v x0 x1.fIns).1 x2 x1.fOuts x3 false = P
 generalize impl_spentBy_v x0 x1 = S at hs ⊢
 generalize spec_l4Of_v x0 x2 = o
 cases hz : S.2 != 0
 ·cases o <;> rfl
 ·show (⟨S.2, []⟩ : CoinsResult) = ⟨S.2, S.1⟩
  rw [hs hz]
theorem spendTx_same (x0 : List Coin) (h0 : Lm smCoin x0) (x1 : Tx) (x2 x3 : Int) : impl_SpendTx_v x0 x1 x2 x3 = spec_SpendTx_v x0 x1 x2 x3 := by
 cases hf : (spec_l4Fault_v x0) != 0
 ·cases hg : (spec_l3Fault_v x1) != 0
  ·rw [← spendTx_eq x0 x1 x2 x3 h0 (by simpa using hf) (by simpa using hg)]
   unfold impl_SpendTx_v
   rw [coinsFault_same, txFault_same, hf, hg]
   simp only [cond_false]
  ·have e : spec_SpentBy_v x0 x1 = ⟨spec_l3Fault_v x1, []⟩ := by unfold spec_SpentBy_v; rw [hf, hg]; simp only [cond_true, cond_false]
   unfold impl_SpendTx_v spec_SpendTx_v
   rw [coinsFault_same, txFault_same, e, hf, hg]
   simp only [cond_true, cond_false, hg]
 ·have e : spec_SpentBy_v x0 x1 = ⟨spec_l4Fault_v x0, []⟩ := by unfold spec_SpentBy_v; rw [hf]; simp only [cond_true]
  unfold impl_SpendTx_v spec_SpendTx_v
  rw [coinsFault_same, e, hf]
  simp only [cond_true, hf]
structure SpendOK (x0 : List Coin) (x1 : Tx) (x2 x3 : Int) : Prop where
 f0 : spec_l4Fault_v x0 = 0
 ft : spec_l3Fault_v x1 = 0
 found : ∀ r ∈ x1.fIns, (impl_findCoin_v x0 r).2 = true
 no : ∀ c ∈ x0, c.fRef.fTx ≠ x2
 put : PutOK (x0.filter (notIn x1.fIns)) x2 x1.fOuts x3 false
 val : impl_SpendTx_v x0 x1 x2 x3 = ⟨0, spec_l4Put_v (x0.filter (notIn x1.fIns)) x2 x1.fOuts x3 false⟩
theorem spend_ok (x0 : List Coin) (x1 : Tx) (x2 x3 : Int) (h0 : Lm smCoin x0) (h1 : smTx x1) (h : (impl_SpendTx_v x0 x1 x2 x3).fCode = 0) : SpendOK x0 x1 x2 x3 := by
 have hv : impl_SpendTx_v x0 x1 x2 x3 = (bif (impl_CoinsFault_v x0 != 0) then ⟨impl_CoinsFault_v x0, []⟩ else bif (impl_TxFault_v x1 != 0) then ⟨impl_TxFault_v x1, []⟩ else ⟨(impl_spendTx_v x0 x1 x2 x3).2, (impl_spendTx_v x0 x1 x2 x3).1⟩) := rfl
 rw [coinsFault_same, txFault_same] at hv
 cases hf : (spec_l4Fault_v x0) != 0
 ·cases hg : (spec_l3Fault_v x1) != 0
  ·have f0 : spec_l4Fault_v x0 = 0 := by simpa using hf
   have ft : spec_l3Fault_v x1 = 0 := by simpa using hg
   have hr := rise_of h0 f0
   have hti := tx_ins x1 ft
   rw [hf, hg, cond_false, cond_false] at hv
   have hs : impl_spendTx_v x0 x1 x2 x3 = (bif ((impl_spentBy_v x0 x1).2 != 0) then ([], (impl_spentBy_v x0 x1).2) else bif impl_hasTx_v x0 x2 then ([], 7) else impl_putCoins_v (impl_takeCoins_v x0 x1.fIns).1 x2 x1.fOuts x3 false) := rfl
   have hb : impl_spentBy_v x0 x1 = (bif x1.fIns.all (fun r => (impl_findCoin_v x0 r).2) then (spentOf x0 x1.fIns, 0) else ([], 4)) := rfl
   cases ha : x1.fIns.all (fun r => (impl_findCoin_v x0 r).2)
   ·rw [ha, cond_false] at hb
    rw [hb] at hs
    rw [hv, hs] at h
    exact absurd (show (4 : Int) = 0 from h) (by decide)
   ·rw [ha, cond_true] at hb
    rw [hb] at hs
    have hs' : impl_spendTx_v x0 x1 x2 x3 = (bif impl_hasTx_v x0 x2 then ([], 7) else impl_putCoins_v (impl_takeCoins_v x0 x1.fIns).1 x2 x1.fOuts x3 false) := hs
    have hall : ∀ r ∈ x1.fIns, (impl_findCoin_v x0 r).2 = true := fun r hr => List.all_eq_true.1 ha r hr
    cases ht : impl_hasTx_v x0 x2
    ·rw [ht, cond_false] at hs'
     obtain ⟨f1, f2⟩ := take_fault h0 f0 x1.fIns
     have hta := takeCoins_all hr hti.nodup hall
     rw [hta] at f1 f2 hs'
     have hp := putCoins_eq (x0.filter (notIn x1.fIns)) x2 x1.fOuts x3 false f2 f1
     have hv2 : impl_SpendTx_v x0 x1 x2 x3 = spec_PutCoins_v (x0.filter (notIn x1.fIns)) x2 x1.fOuts x3 false := by rw [hv, hs']; exact hp
     have hk := put_ok _ x2 x1.fOuts x3 false f2 h1.2.2.2 (by rw [← hv2]; exact h)
     exact ⟨f0, ft, hall, hasTx_no ht, hk, hv2.trans hk.val⟩
    ·rw [ht, cond_true] at hs'
     rw [hv, hs'] at h
     exact absurd (show (7 : Int) = 0 from h) (by decide)
  ·rw [hf, hg, cond_false, cond_true] at hv
   rw [hv] at h
   have h5 : spec_l3Fault_v x1 = 0 := h
   rw [h5] at hg; cases hg
 ·rw [hf, cond_true] at hv
  rw [hv] at h
  have h5 : spec_l4Fault_v x0 = 0 := h
  rw [h5] at hf; cases hf
section undo
variable {x0 : List Coin} {x1 : Tx} {x2 x3 : Int}
theorem notIn_among (ins : List Ref) (c : Coin) : notIn ins c = !(spec_l3Among_v ins c.fRef) := by
 cases ha : spec_l3Among_v ins c.fRef
 ·cases hn : notIn ins c
  ·have := (among_iff _ _).2 (mem_notIn.1 hn)
   rw [ha] at this; cases this
  ·rfl
 ·exact mem_notIn.2 ((among_iff _ _).1 ha)
theorem SpendOK.rest_sm (h0 : Lm smCoin x0) : Lm smCoin (x0.filter (notIn x1.fIns)) := Lm_sub h0 List.filter_sublist
theorem SpendOK.gone (h : SpendOK x0 x1 x2 x3) (h0 : Lm smCoin x0) : ∀ r ∈ x1.fIns, ∀ c ∈ spec_l4Put_v (x0.filter (notIn x1.fIns)) x2 x1.fOuts x3 false, c.fRef ≠ r := fun r hr c hc e => by
 rcases List.mem_append.1 (h.put.perm.mem_iff.1 hc) with hc | hc
 ·have h1 := (List.mem_filter.1 hc).2
  have h2 : notIn x1.fIns c = false := mem_notIn.2 (by rw [e]; exact hr)
  rw [h2] at h1; cases h1
 ·obtain ⟨h1, h2⟩ := find_yes (rise_of h0 h.f0) (h.found r hr)
  have h3 := h.no _ h1
  rw [h2, ← e] at h3
  exact h3 (news_tx c hc)
theorem SpendOK.lost (h : SpendOK x0 x1 x2 x3) (h0 : Lm smCoin x0) : ∀ r ∈ x1.fIns, (impl_findCoin_v (spec_l4Put_v (x0.filter (notIn x1.fIns)) x2 x1.fOuts x3 false) r).2 = false := fun r hr => by
 cases hf : (impl_findCoin_v (spec_l4Put_v (x0.filter (notIn x1.fIns)) x2 x1.fOuts x3 false) r).2
 ·rfl
 ·obtain ⟨h1, h2⟩ := find_yes (h.put.rise (SpendOK.rest_sm h0)) hf
  exact absurd h2 (h.gone h0 r hr _ h1)
theorem SpendOK.spent (h : SpendOK x0 x1 x2 x3) : impl_SpentBy_v x0 x1 = ⟨0, spentOf x0 x1.fIns⟩ := by
 have ha : x1.fIns.all (fun r => (impl_findCoin_v x0 r).2) = true := List.all_eq_true.2 h.found
 unfold impl_SpentBy_v impl_spentBy_v
 rw [coinsFault_same, txFault_same, h.f0, h.ft, ha]; rfl
theorem madeFrom_news (tx h : Int) (m : Bool) (os : List Out) : ∀ (d i : Nat), madeFrom os i ((List.range' i d).map (newAt tx h m os)) = true
 | 0, i => rfl
 | d + 1, i => by
  rw [List.range'_succ, List.map_cons]
  unfold madeFrom
  have e1 : ((newAt tx h m os i).fRef.fAt != (i : Int)) = false := by simp [newAt]
  have e2 : impl_sameOuts_v (newAt tx h m os i).fOut (gt os (i : Int)) = true := sameOut_refl _
  rw [e1, e2]
  exact madeFrom_news tx h m os d (i + 1)
theorem SpendOK.sp_fault (h : SpendOK x0 x1 x2 x3) (h0 : Lm smCoin x0) : spec_l4Fault_v (spentOf x0 x1.fIns) = 0 := fault_of (Nat.le_trans List.filter_sublist.length_le (fault_len h.f0)) (fun c hc => fault_parts h.f0 c (spent_mem hc)) (spent_rise (rise_of h0 h.f0) x1.fIns)
theorem SpendOK.undo (h : SpendOK x0 x1 x2 x3) (h0 : Lm smCoin x0) : impl_UndoTx_v (spec_l4Put_v (x0.filter (notIn x1.fIns)) x2 x1.fOuts x3 false) x1 x2 (spentOf x0 x1.fIns) = ⟨0, x0⟩ := by
 have hr := rise_of h0 h.f0
 have hs0 : Lm smCoin (x0.filter (notIn x1.fIns)) := SpendOK.rest_sm h0
 have hrP := h.put.rise hs0
 have hfP := h.put.fault hs0
 have hti := tx_ins x1 h.ft
 have hrS := spent_rise hr x1.fIns
 have a1 : impl_areOf_v (spentOf x0 x1.fIns) x1.fIns = true := by
  rw [areOf_eq, Bool.and_eq_true]
  have hl := (spent_perm hr hti.nodup h.found).length_eq
  rw [List.length_map] at hl
  exact ⟨by rw [← hl]; simp, List.all_eq_true.2 fun c hc => (List.mem_filter.1 hc).2⟩
 have a2 : impl_areMade_v (spec_l4Put_v (x0.filter (notIn x1.fIns)) x2 x1.fOuts x3 false) x2 x1.fOuts = true := by
  have e : ofId (spec_l4Put_v (x0.filter (notIn x1.fIns)) x2 x1.fOuts x3 false) x2 = news x2 x3 false x1.fOuts := h.put.new hs0
  unfold impl_areMade_v
  rw [e]
  have e2 : (((news x2 x3 false x1.fOuts).length : Int) != (x1.fOuts.length : Int)) = false := by unfold news; simp
  rw [e2, cond_false]
  exact madeFrom_news x2 x3 false x1.fOuts _ 0
 have a3 : x1.fIns.any (fun r => (impl_findCoin_v (spec_l4Put_v (x0.filter (notIn x1.fIns)) x2 x1.fOuts x3 false) r).2) = false := by
  rw [List.any_eq_false]
  intro r hr'
  rw [h.lost h0 r hr']; exact Bool.false_ne_true
 have a4 : spec_l5Back_v (spec_l4Put_v (x0.filter (notIn x1.fIns)) x2 x1.fOuts x3 false) x2 (spentOf x0 x1.fIns) = x0 := by
  obtain ⟨s1, _, _⟩ := back_sort _ x2 (spentOf x0 x1.fIns) hrP hrS (undo_no hrP a1 a3)
  have hp : (spec_l5Back_v (spec_l4Put_v (x0.filter (notIn x1.fIns)) x2 x1.fOuts x3 false) x2 (spentOf x0 x1.fIns)).Perm (notId (spec_l4Put_v (x0.filter (notIn x1.fIns)) x2 x1.fOuts x3 false) x2 ++ spentOf x0 x1.fIns) := l5Back_perm _ _
  have e : notId (spec_l4Put_v (x0.filter (notIn x1.fIns)) x2 x1.fOuts x3 false) x2 = x0.filter (notIn x1.fIns) := h.put.old hs0
  rw [e] at hp
  have e2 : x0.filter (notIn x1.fIns) = x0.filter (fun c => !(spec_l3Among_v x1.fIns c.fRef)) := List.filter_congr fun c _ => notIn_among x1.fIns c
  have hp2 : (x0.filter (notIn x1.fIns) ++ spentOf x0 x1.fIns).Perm x0 := by
   rw [e2]
   exact List.perm_append_comm.trans (List.filter_append_perm (fun c : Coin => spec_l3Among_v x1.fIns c.fRef) x0)
  exact (rise_uniq (hp.trans hp2) hr.2 s1).symm
 have a5 : impl_isId_v x2 = true := h.put.id
 have a6 : decide (40 < (x0.length : Int)) = false := by have := fault_len h.f0; simp; omega
 have hu : impl_undoTx_v (spec_l4Put_v (x0.filter (notIn x1.fIns)) x2 x1.fOuts x3 false) x1 x2 (spentOf x0 x1.fIns) = (x0, 0) := by
  unfold impl_undoTx_v
  rw [a1, a2, a3, a4, a5, a6]; rfl
 unfold impl_UndoTx_v
 rw [coinsFault_same, coinsFault_same, txFault_same, hfP, h.sp_fault h0, h.ft, hu]; rfl
theorem SpendOK.again (h : SpendOK x0 x1 x2 x3) (h0 : Lm smCoin x0) : impl_SpendTx_v (spec_l4Put_v (x0.filter (notIn x1.fIns)) x2 x1.fOuts x3 false) x1 x2 x3 = ⟨4, []⟩ := by
 have hs0 : Lm smCoin (x0.filter (notIn x1.fIns)) := SpendOK.rest_sm h0
 have hfP := h.put.fault hs0
 have hti := tx_ins x1 h.ft
 have ha : x1.fIns.all (fun r => (impl_findCoin_v (spec_l4Put_v (x0.filter (notIn x1.fIns)) x2 x1.fOuts x3 false) r).2) = false := by
  rw [List.all_eq_false]
  have h1 := hti.ins1
  exact ⟨x1.fIns[0], List.getElem_mem _, by rw [h.lost h0 _ (List.getElem_mem _)]; exact Bool.false_ne_true⟩
 have hb : impl_spentBy_v (spec_l4Put_v (x0.filter (notIn x1.fIns)) x2 x1.fOuts x3 false) x1 = ([], 4) := by unfold impl_spentBy_v; rw [ha]; rfl
 have hu : impl_spendTx_v (spec_l4Put_v (x0.filter (notIn x1.fIns)) x2 x1.fOuts x3 false) x1 x2 x3 = ([], 4) := by unfold impl_spendTx_v; rw [hb]; rfl
 unfold impl_SpendTx_v
 rw [coinsFault_same, txFault_same, hfP, h.ft, hu]; rfl
end undo
theorem undos_loop {x0 : List Coin} {x1 : Tx} {x2 x3 : Int} (hk : SpendOK x0 x1 x2 x3) (h0 : Lm smCoin x0) (h1 : smTx x1) : ∀ (d i : Nat), i + d = x1.fIns.length → Evt (fun k => laws_FnUndos.l0 (x0, x1, x2, x3) ⟨0, spec_l4Put_v (x0.filter (notIn x1.fIns)) x2 x1.fOuts x3 false⟩ k (i : Int)) (.inr ())
 | 0, i, hd => by
  refine Evt.s ?_
  simp only [laws_FnUndos.l0.eq_2]
  exact Evt.f (ge_lt (by omega)) (Evt.self _)
 | d + 1, i, hd => by
  have hl := h1.2.2.1.1
  have hi : i < x1.fIns.length := by omega
  have hs0 : Lm smCoin (x0.filter (notIn x1.fIns)) := SpendOK.rest_sm h0
  have ea := (impl_CoinAt_ev (spec_l4Put_v (x0.filter (notIn x1.fIns)) x2 x1.fOuts x3 false) (gt x1.fIns (i : Int)) (hk.put.sm hs0 h1.2.2.2)).to (coinAt_no (r := gt x1.fIns (i : Int)) (hk.put.rise hs0) (hk.put.fault hs0) (hk.gone h0 _ (gt_mem hi)))
  have ih := undos_loop hk h0 h1 d (i + 1) (by omega)
  refine Evt.s ?_
  simp only [laws_FnUndos.l0.eq_2]
  rw [w64 hi (by omega)]
  exact Evt.t (int_lt hi) (Evt.chk (idx_ok hi) (Evt.bind ea (Evt.f rfl ih)))
theorem same_FnUndos (c : List Int) (o0 : Lok (iOk .u8) c) : Evt (fun k => laws_FnUndos.f k c) true := by
 have eb : Evt (fun k => laws_lwBig.f k c) (decide (1048576 < (c.length : Int))) := Evt.self _
 cases hb : decide (1048576 < (c.length : Int))
 ·obtain ⟨xs, t, id, h, eD, hs, hxl, ht⟩ := DrawSpendTx_ev c (by have := of_decide_eq_false hb; omega) (fun x hx => code_byte (o0.2 x hx))
  have eP := impl_SpendTx_ev xs t id h hs ht
  have eS := spec_SpendTx_ev xs t id h hs ht
  refine Evt.bind eb (Evt.f hb (Evt.bind eD ?_))
  cases hz : (impl_SpendTx_v xs t id h).fCode != 0
  ·have hk := spend_ok xs t id h hs ht (by simpa using hz)
   have hs0 : Lm smCoin (xs.filter (notIn t.fIns)) := SpendOK.rest_sm hs
   have hP := hk.put.sm hs0 ht.2.2.2
   rw [hk.val] at eP
   have eB := (impl_SpentBy_ev xs t hs ht).to hk.spent
   have hsp : Lm smCoin (spentOf xs t.fIns) := Lm_sub hs List.filter_sublist
   have eU := (impl_UndoTx_ev (spec_l4Put_v (xs.filter (notIn t.fIns)) id t.fOuts h false) t id (spentOf xs t.fIns) hP ht hsp).to (hk.undo hs)
   have eF := (impl_CoinsFault_ev (spec_l4Put_v (xs.filter (notIn t.fIns)) id t.fOuts h false) hP).to ((coinsFault_same _).trans (hk.put.fault hs0))
   have eA := (impl_SpendTx_ev (spec_l4Put_v (xs.filter (notIn t.fIns)) id t.fOuts h false) t id h hP ht).to (hk.again hs)
   have e1 := (impl_SameCoins_ev xs xs hs hs).to (sameCoins_refl xs)
   have elp := undos_loop hk hs ht t.fIns.length 0 (by omega)
   have elp0 : Evt (fun k => laws_FnUndos.l0 (xs, t, id, h) ⟨0, spec_l4Put_v (xs.filter (notIn t.fIns)) id t.fOuts h false⟩ k 0) (.inr ()) := elp
   refine Evt.bind eP (Evt.f rfl (Evt.bind eB (Evt.bind eU (Evt.bind (a := .inr ()) elp0 ?_))))
   exact Evt.bind (Evt.t rfl e1) (Evt.bind (Evt.t rfl eF) (Evt.bind (Evt.t rfl eA) (Evt.ret rfl)))
  ·refine Evt.bind eP (Evt.t hz (Evt.bind eS (Evt.ret ?_)))
   rw [spendTx_same xs hs t id h]; simp
 ·exact Evt.bind eb (Evt.t hb (Evt.self _))
end Go.Proofs.YtecgbhfgkkpmhacGreat.Zk
namespace Go.Proofs.YtecgbhfgkkpmhacGreat.Pure
open Go Go.Proofs.YtecgbhfgkkpmhacGreat.Zk
theorem FnUndos (x0 : List Int) (o0 : Lok (iOk .u8) x0) : ∃ k, laws_FnUndos.f k x0 = some true := (same_FnUndos x0 o0).get
end Go.Proofs.YtecgbhfgkkpmhacGreat.Pure
