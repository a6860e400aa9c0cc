/- The plain law of FnExactTreeFault: what the program's function and the reference's compute is the same. No condition. -/
import Derived.Test.YtkofpnbacgccnaaZkPure
import Derived.Test.YtkofpnbacgccnaaZkOpn
import Derived.Test.YtkofpnbacgccnaaZkF7
namespace Go.Proofs.Ytkofpnbacgccnaa.Zk
open Go Go.RowKit Go.IntWalk
set_option linter.unusedVariables false
set_option linter.unusedSimpArgs false

def szL (n : Nat) (l : Int) : Int := bif decide (wrap64 (l - n) < 0) then -1 else wrap64 (l - n)
theorem szL_ok {n : Nat} {l : Int} (h : decide (szL n l < 0) = false) (h0 : 0 ≤ l) (h1 : l ≤ 1048576) (hn : n ≤ maxLen) : (n : Int) ≤ l ∧ szL n l = l - n := by
  unfold szL at *
  have hn' : n ≤ 9223372036854775807 := by simpa [maxLen] using hn
  have e : wrap64 (l - n) = l - n := by unfold wrap64; omega
  rw [e] at h ⊢
  by_cases hc : l - (n : Int) < 0
  · rw [decide_eq_true hc] at h; cases h
  · rw [decide_eq_false hc]; exact ⟨by omega, rfl⟩
theorem szL_le {n : Nat} {l : Int} (h0 : 0 ≤ l) (h1 : l ≤ 1048576) (hn : n ≤ maxLen) : szL n l ≤ l := by
  unfold szL
  have hn' : n ≤ 9223372036854775807 := by simpa [maxLen] using hn
  have e : wrap64 (l - n) = l - n := by unfold wrap64; omega
  rw [e]
  by_cases hc : l - (n : Int) < 0
  · rw [decide_eq_true hc]; show (-1 : Int) ≤ l; omega
  · rw [decide_eq_false hc]; show l - (n : Int) ≤ l; omega
theorem nn {l : Int} (h : decide (l < 0) = false) : 0 ≤ l := by simpa using h
abbrev tr {α : Type} (x : α) : Prop := True
def Lm {α : Type} (sm : α → Prop) (xs : List α) : Prop := xs.length ≤ 1048576 ∧ ∀ x ∈ xs, sm x
theorem gt_mem {α : Type} [Inhabited α] {xs : List α} {i : Nat} (h : i < xs.length) : gt xs (i : Int) ∈ xs := by
  rw [gt_eq (i := (i : Int)) (by simpa using h)]
  exact List.getElem_mem _
/-- Sizes, added up. -/
theorem Evt.szl {α : Type} [Inhabited α] {L : Nat → Int → Int → Option (Int ⊕ Int)} {sm : α → Prop} (xs : List α) (hn : xs.length ≤ 9223372036854775807)
    (step : ∀ i, i < xs.length → ∀ left, 0 ≤ left → left ≤ 1048576 → ∃ t, t ≤ left ∧ (0 ≤ t → sm (gt xs (i : Int))) ∧ (t < 0 → Evt (fun k => L k left (i : Int)) (.inl (-1))) ∧ ∀ o, 0 ≤ t → Evt (fun k => L k t (wrap64 ((i : Int) + 1))) o → Evt (fun k => L k left (i : Int)) o)
    (done : ∀ left, Evt (fun k => L k left (xs.length : Int)) (.inr left)) (l : Int) (h0 : 0 ≤ l) (h1 : l ≤ 1048576) :
    ∃ o, Evt (fun k => L k l 0) o ∧ match o with | .inl r => r = -1 | .inr t => 0 ≤ t ∧ t ≤ l ∧ ∀ x ∈ xs, sm x := by
  have key : ∀ d i l, i + d = xs.length → 0 ≤ l → l ≤ 1048576 → ∃ o, Evt (fun k => L k l (i : Int)) o ∧ match o with | .inl r => r = -1 | .inr t => 0 ≤ t ∧ t ≤ l ∧ ∀ j, i ≤ j → j < xs.length → sm (gt xs (j : Int)) := by
    intro d
    induction d with
    | zero =>
      intro i l hi h0 h1
      have e : i = xs.length := by omega
      subst e
      exact ⟨_, done l, h0, by omega, fun j h2 h3 => by omega⟩
    | succ d ih =>
      intro i l hi h0 h1
      obtain ⟨t, a1, a2, a3, a4⟩ := step i (by omega) l h0 h1
      by_cases c : t < 0
      · exact ⟨_, a3 c, rfl⟩
      · obtain ⟨o, b1, b2⟩ := ih (i + 1) t (by omega) (by omega) (by omega)
        refine ⟨o, a4 o (by omega) (by rw [w64 (by omega : i < xs.length) hn]; exact b1), ?_⟩
        cases o with
        | inl r => exact b2
        | inr u =>
          refine ⟨b2.1, by have := b2.2.1; omega, fun j h2 h3 => ?_⟩
          by_cases e : j = i
          · subst e; exact a2 (by omega)
          · exact b2.2.2 j (by omega) h3
  obtain ⟨o, b1, b2⟩ := key xs.length 0 l (by omega) h0 h1
  refine ⟨o, b1, ?_⟩
  cases o with
  | inl r => exact b2
  | inr u =>
    refine ⟨b2.1, b2.2.1, fun x hx => ?_⟩
    obtain ⟨j, hj, e⟩ := List.getElem_of_mem hx
    have := b2.2.2 j (by omega) hj
    rw [gt_eq (i := (j : Int)) (by simpa using hj)] at this
    simpa [e] using this

theorem Evt_t2 {β : Type} {f g nxt : Nat → Option (β ⊕ Unit)} {c : Bool} {v : Option β} (hc : c = true) (h : StE f nxt v) : StE (fun n => bif c then f n else g n) nxt v := by subst hc; exact h
theorem Lm_take {α : Type} {sm : α → Prop} {xs : List α} {n : Nat} (h : Lm sm xs) : Lm sm (xs.take n) := ⟨by have := h.1; rw [List.length_take]; omega, fun x hx => h.2 x (List.mem_of_mem_take hx)⟩
theorem Lm_drop {α : Type} {sm : α → Prop} {xs : List α} {n : Nat} (h : Lm sm xs) : Lm sm (xs.drop n) := ⟨by have := h.1; rw [List.length_drop]; omega, fun x hx => h.2 x (List.mem_of_mem_drop hx)⟩
/-! searches, told by 'any' -/
theorem found_any {β γ : Type} (l : List Nat) (p : Nat → Bool) (a : β) (r : β → γ) (c : γ) : onO (l.findSome? fun i => bif p i then some a else none) r c = bif l.any p then r a else c := by
  induction l with
  | nil => rfl
  | cons i l ih =>
    rw [List.findSome?_cons, List.any_cons]
    cases p i
    · simpa using ih
    · rfl
theorem idx_any (l : List Nat) (p : Nat → Bool) : decide (0 ≤ onO (l.findSome? fun i => bif p i then some (i : Int) else none) (fun r => r) (-1)) = l.any p := by
  induction l with
  | nil => rfl
  | cons i l ih =>
    rw [List.findSome?_cons, List.any_cons]
    cases p i
    · simpa using ih
    · simp [onO]
theorem band1 {c d e : Bool} : (c && (bif c then d else e)) = (c && d) := by cases c <;> rfl
theorem bor1 {c d e : Bool} : (c || (bif !c then d else e)) = (c || d) := by cases c <;> rfl
theorem bnn1 {c d e : Bool} : ((!c) || (!(bif (!(!c)) then d else e))) = ((!c) || (!d)) := by cases c <;> rfl
theorem bnn2 {c d : Bool} : ((!c) || (!d)) = !(c && d) := by cases c <;> rfl
theorem bnn3 {c d e : Bool} : ((!c) || (!(bif !(!c) then d else e))) = !(c && d) := by cases c <;> rfl
theorem bn_n {c d e : Bool} : (!c || !(bif c then d else e)) = !(c && d) := by cases c <;> rfl
theorem rng1 {a lo hi : Int} : (decide (a < lo) || decide (hi < a)) = !(decide (lo ≤ a) && decide (a ≤ hi)) := by
  by_cases h1 : a < lo
  · have : ¬ lo ≤ a := by omega
    simp [h1, this]
  · have h2 : lo ≤ a := by omega
    by_cases h3 : hi < a
    · have : ¬ a ≤ hi := by omega
      simp [h1, h2, h3, this]
    · have : a ≤ hi := by omega
      simp [h1, h2, h3, this]
theorem at_any (l : List Nat) (p : Nat → Bool) (h : ∀ i ∈ l, i < 4611686018427387904) : decide (0 < onO (l.findSome? fun i => bif p i then some (wrap64 ((i : Int) + 1)) else none) (fun r => r) 0) = l.any p := by
  induction l with
  | nil => rfl
  | cons i l ih =>
    rw [List.findSome?_cons, List.any_cons]
    have hi := h i (by simp)
    have hl : ∀ j ∈ l, j < 4611686018427387904 := fun j hj => h j (List.mem_cons_of_mem _ hj)
    clear h
    cases p i
    · exact ih hl
    · have e : wrap64 ((i : Int) + 1) = (i : Int) + 1 := by unfold wrap64; omega
      rw [e]
      show decide (0 < (i : Int) + 1) = true
      exact decide_eq_true (by omega)
theorem fs_congr {β : Type} {l : List Nat} {f g : Nat → Option β} (h : ∀ i ∈ l, f i = g i) : l.findSome? f = l.findSome? g := by
  induction l with
  | nil => rfl
  | cons i l ih => rw [List.findSome?_cons, List.findSome?_cons, h i (by simp), ih fun j hj => h j (by simp [hj])]
theorem any_congr' {l : List Nat} {f g : Nat → Bool} (h : ∀ i ∈ l, f i = g i) : l.any f = l.any g := by
  induction l with
  | nil => rfl
  | cons i l ih => rw [List.any_cons, List.any_cons, h i (by simp), ih fun j hj => h j (by simp [hj])]
theorem in_range {i n : Nat} (h : i ∈ List.range' 0 (n - 0)) : i < n := by
  have := List.mem_range'_1.1 h
  omega
theorem gt_take {α : Type} [Inhabited α] {xs : List α} {n j : Nat} (h : j < n) : gt (xs.take n) (j : Int) = gt xs (j : Int) := by
  unfold gt
  have e : ((j : Int)).toNat = j := by simp
  rw [e, List.getD_eq_getElem?_getD, List.getD_eq_getElem?_getD, List.getElem?_take, if_pos h]
theorem any_take {α : Type} [Inhabited α] {xs : List α} {i : Nat} (h : i ≤ xs.length) (p : α → Bool) :
    (List.range' 0 ((xs.take i).length - 0)).any (fun j => p (gt (xs.take i) (j : Int))) = (List.range' 0 (i - 0)).any (fun j => p (gt xs (j : Int))) := by
  have e : (xs.take i).length = i := by rw [List.length_take]; omega
  rw [e]
  exact any_congr' fun j hj => by rw [gt_take (in_range hj)]
theorem sEq_comm (a b : ByteArray) : sEq a b = sEq b a := by unfold sEq; exact BEq.comm
theorem bifb {b : Bool} : (bif b then true else false) = b := by cases b <;> rfl
theorem idx_found {n : Nat} {p : Nat → Bool} (h : 0 ≤ onO ((List.range' 0 (n - 0)).findSome? fun i => bif p i then some (i : Int) else none) (fun r => r) (-1)) : idxOk (onO ((List.range' 0 (n - 0)).findSome? fun i => bif p i then some (i : Int) else none) (fun r => r) (-1)) n = true := by
  have key : ∀ l : List Nat, (∀ i ∈ l, i < n) → 0 ≤ onO (l.findSome? fun i => bif p i then some (i : Int) else none) (fun r => r) (-1) → idxOk (onO (l.findSome? fun i => bif p i then some (i : Int) else none) (fun r => r) (-1)) n = true := by
    intro l
    induction l with
    | nil => intro _ h; exact absurd h (by show ¬ (0 : Int) ≤ -1; omega)
    | cons i l ih =>
      intro hl h
      rw [List.findSome?_cons] at h ⊢
      cases hp : p i
      · rw [hp] at h; exact ih (fun j hj => hl j (List.mem_cons_of_mem _ hj)) h
      · exact idx_ok (hl i (List.mem_cons_self ..))
  exact key _ (fun i hi => in_range hi) h
theorem cut_ok {i n : Nat} (h : i ≤ n) : cutOk (i : Int) n = true := by unfold cutOk; simp; omega
theorem len_eq {a b : Nat} (h : ((a : Int) != (b : Int)) = false) : a = b := by
  by_cases e : a = b
  · exact e
  · have : ((a : Int) != (b : Int)) = true := by simp; omega
    rw [this] at h; cases h

abbrev smIntResult (x : IntResult) : Prop := tr x.fCode ∧ tr x.fValue
abbrev smRef (x : Ref) : Prop := tr x.fTx ∧ tr x.fAt
abbrev smMember (x : Member) : Prop := tr x.fKey ∧ smRef x.fRef
abbrev smRule (x : Rule) : Prop := (Lm tr) x.fKeys ∧ tr x.fNeed ∧ tr x.fAfter
abbrev smBlock (x : Block) : Prop := tr x.fPrev ∧ tr x.fHeight ∧ tr x.fMiner ∧ (Lm tr) x.fTxs
abbrev smNode (x : Node) : Prop := tr x.fId ∧ tr x.fPrev ∧ tr x.fHeight
abbrev smOut (x : Out) : Prop := tr x.fValue ∧ smRule x.fRule
abbrev smCoin (x : Coin) : Prop := smRef x.fRef ∧ smOut x.fOut ∧ tr x.fHeight ∧ tr x.fMined
abbrev smSign (x : Sign) : Prop := tr x.fKey ∧ tr x.fId
abbrev smLedger (x : Ledger) : Prop := (Lm tr) x.fTexts ∧ (Lm smSign) x.fSigns
theorem szNodeS_ev (x : List Node) (o : (Lok okNode) x) (l : Int) (h0 : 0 ≤ l) (h1 : l ≤ 1048576) : ∃ t, Evt (fun k => laws_szNodeS.f k x l) t ∧ t ≤ l ∧ (0 ≤ t → (Lm smNode) x) := by
  have hn := o.1
  exact ⟨szL x.length l, Evt.if_ (Evt.self _) (Evt.self _), szL_le h0 h1 hn, fun h => ⟨by have := szL_ok (n := x.length) (l := l) (by simpa using h) h0 h1 hn; omega, by simp⟩⟩
theorem toNode_ev (x : Node) (h : smNode x) : Evt (fun k => laws_toNode.f k x) x := Evt.self _
theorem toNodeS_ev (x : List Node) (h : (Lm smNode) x) : Evt (fun k => laws_toNodeS.f k x) x := by
  have hn := h.1
  refine Evt.chk (by simp) (Evt.chk (by simp [leB]; omega) (Evt.bind (a := x) ?_ (Evt.self _)))
  have := Evt.copy (L := fun k acc i => laws_toNodeS.l0 x k acc i) x id (by omega) (fun acc i hl hi r hr => ?_) (fun acc => ?_) (List.replicate ((x.length : Int)).toNat (⟨0, 0, 0⟩ : Node)) (by simp)
  · simpa using this
  · refine Evt.s ?_
    simp only [laws_toNodeS.l0_s]
    refine Evt.t (int_lt hi) (Evt.chk (idx_ok hi) (Evt.bind (toNode_ev _ (h.2 _ (gt_mem hi))) (Evt.chk (idx_ok (hl ▸ hi)) ?_)))
    simpa using hr
  · refine Evt.s ?_
    simp only [laws_toNodeS.l0_s]
    exact Evt.f int_nlt (Evt.self _)
def spec_l1In_v (x0 : Int) (x1 : Int) (x2 : Int) : Bool := ((decide (x1 ≤ x0)) && (decide (x0 ≤ x2)))
theorem spec_l1In_ev (x0 : Int) (x1 : Int) (x2 : Int)  : Evt (fun k => spec_l1In.f k x0 x1 x2) (spec_l1In_v x0 x1 x2) :=
  (Evt.self _)
def spec_l9At_v (x0 : List Node) (x1 : Int) : Int := (onO ((List.range' 0 (x0.length - 0)).findSome? (fun (i0 : Nat) => (bif (((gt x0 (i0 : Int)).fId) == x1) then (some (i0 : Int)) else none))) (fun r => r) (-1))
theorem spec_l9At_ev (x0 : List Node) (x1 : Int) (h_x0 : (Lm smNode) x0) : Evt (fun k => spec_l9At.f k x0 x1) (spec_l9At_v x0 x1) :=
  (Evt.loop (r' := fun r => r) (Evt.srch (L := (fun k i => spec_l9At.l0 x0 x1 k i)) 0 x0.length (by have := h_x0; first | (have := this.1; omega) | omega) (fun (i0 : Nat) => (bif (((gt x0 (i0 : Int)).fId) == x1) then (some (i0 : Int)) else none)) (fun i0 hs2 hi2 => by
  have hbn : x0.length ≤ 9223372036854775807 := (by have := h_x0; first | (have := this.1; omega) | omega)
  simp only [spec_l9At.l0_s]
  exact Evt_t2 (int_lt hi2) (StE.chk (by first | exact idx_ok (by omega) | exact idx_ok (by have hq := len_eq (by assumption); omega) | exact idx_found (show (0 : Int) ≤ (i0 : Int) by simp_all) | exact cut_ok (by omega) | exact or_ok (idx_ok (by omega)) | (refine or1 (fun hz => pre_ok (by simp at hz; omega) (by omega) (by omega))) | exact pre_ok (by omega) (by omega) (by omega) | (simp_all [idxOk, cutOk, leB]; done) | (simp_all [idxOk, cutOk, leB]; omega) | (simp [idxOk, cutOk, leB] at *; omega)) (StE.ifh (fun hc1 => (StE.ret _)) (fun hc1 => StE.next)))) (fun j hj => by
  simp only [spec_l9At.l0_s]
  exact Evt.f (ge_lt hj) (Evt.self _))) (fun _ => rfl) (Evt.self _))
def spec_l9Node_v (x0 : List Node) (x1 : Node) : Int := (bif ((!(spec_l1In_v x1.fId 1 60)) || (!(bif (!(!(spec_l1In_v x1.fId 1 60))) then (spec_l1In_v x1.fHeight 1 40) else default))) then 3 else (bif (decide (0 ≤ (spec_l9At_v x0 x1.fId))) then 7 else (onw (bif (x1.fPrev != 0) then (bif (decide ((spec_l9At_v x0 x1.fPrev) < 0)) then (.inl 4) else (.inr ((gt x0 (spec_l9At_v x0 x1.fPrev)).fHeight))) else (.inr 0)) (fun r => r) (fun a3524 => (bif (x1.fHeight != (wrap64 (a3524 + 1))) then 1 else 0)))))
theorem spec_l9Node_ev (x0 : List Node) (x1 : Node) (h_x0 : (Lm smNode) x0) : Evt (fun k => spec_l9Node.f k x0 x1) (spec_l9Node_v x0 x1) :=
  (Evt.bind (spec_l1In_ev x1.fId 1 60) (Evt.bind (Evt.ifh (fun _ => (spec_l1In_ev x1.fHeight 1 40)) (fun _ => Evt.self _)) (Evt.ifh (fun hc4 => (Evt.self _)) (fun hc4 => (Evt.bind (spec_l9At_ev x0 x1.fId (h_x0)) (Evt.ifh (fun hc3 => (Evt.self _)) (fun hc3 => (Evt.thn (r' := fun r => r) (g' := fun a3524 => (bif (x1.fHeight != (wrap64 (a3524 + 1))) then 1 else 0)) (Evt.ifh (fun hc1 => (Evt.bind (spec_l9At_ev x0 x1.fPrev (h_x0)) (Evt.ifh (fun hc0 => (Evt.self _)) (fun hc0 => (Evt.chk (by first | exact idx_ok (by omega) | exact idx_ok (by have hq := len_eq (by assumption); omega) | exact idx_found (show (0 : Int) ≤ (spec_l9At_v x0 x1.fPrev) by simp_all) | exact cut_ok (by omega) | exact or_ok (idx_ok (by omega)) | (refine or1 (fun hz => pre_ok (by simp at hz; omega) (by omega) (by omega))) | exact pre_ok (by omega) (by omega) (by omega) | (simp_all [idxOk, cutOk, leB]; done) | (simp_all [idxOk, cutOk, leB]; omega) | (simp [idxOk, cutOk, leB] at *; omega)) (Evt.self _)))))) (fun hc1 => (Evt.self _))) (fun _ => rfl) (fun a3524 hy => (Evt.ifh (fun hc2 => (Evt.self _)) (fun hc2 => (Evt.self _))))))))))))
def spec_l9Fault_v (x0 : List Node) : Int := (bif (decide (60 < (x0.length : Int))) then 2 else (onO ((List.range' 0 (x0.length - 0)).findSome? (fun (i0 : Nat) => (bif ((spec_l9Node_v (x0.take ((i0 : Int)).toNat) (gt x0 (i0 : Int))) != 0) then (some (spec_l9Node_v (x0.take ((i0 : Int)).toNat) (gt x0 (i0 : Int)))) else none))) (fun r => r) 0))
theorem spec_l9Fault_ev (x0 : List Node) (h_x0 : (Lm smNode) x0) : Evt (fun k => spec_l9Fault.f k x0) (spec_l9Fault_v x0) :=
  (Evt.ifh (fun hc2 => (Evt.self _)) (fun hc2 => (Evt.loop (r' := fun r => r) (Evt.srch (L := (fun k i => spec_l9Fault.l0 x0 k i)) 0 x0.length (by have := h_x0; first | (have := this.1; omega) | omega) (fun (i0 : Nat) => (bif ((spec_l9Node_v (x0.take ((i0 : Int)).toNat) (gt x0 (i0 : Int))) != 0) then (some (spec_l9Node_v (x0.take ((i0 : Int)).toNat) (gt x0 (i0 : Int)))) else none)) (fun i0 hs2 hi2 => by
  have hbn : x0.length ≤ 9223372036854775807 := (by have := h_x0; first | (have := this.1; omega) | omega)
  simp only [spec_l9Fault.l0_s]
  exact Evt_t2 (int_lt hi2) (StE.chk (by first | exact idx_ok (by omega) | exact idx_ok (by have hq := len_eq (by assumption); omega) | exact idx_found (by simp_all) | exact cut_ok (by omega) | exact or_ok (idx_ok (by omega)) | (refine or1 (fun hz => pre_ok (by simp at hz; omega) (by omega) (by omega))) | exact pre_ok (by omega) (by omega) (by omega) | (simp_all [idxOk, cutOk, leB]; done) | (simp_all [idxOk, cutOk, leB]; omega) | (simp [idxOk, cutOk, leB] at *; omega)) (StE.chk (by first | exact idx_ok (by omega) | exact idx_ok (by have hq := len_eq (by assumption); omega) | exact idx_found (show (0 : Int) ≤ (i0 : Int) by simp_all) | exact cut_ok (by omega) | exact or_ok (idx_ok (by omega)) | (refine or1 (fun hz => pre_ok (by simp at hz; omega) (by omega) (by omega))) | exact pre_ok (by omega) (by omega) (by omega) | (simp_all [idxOk, cutOk, leB]; done) | (simp_all [idxOk, cutOk, leB]; omega) | (simp [idxOk, cutOk, leB] at *; omega)) (StE.bind (spec_l9Node_ev (x0.take ((i0 : Int)).toNat) (gt x0 (i0 : Int)) ((Lm_take h_x0))) (StE.ifh (fun hc1 => (StE.ret _)) (fun hc1 => StE.next)))))) (fun j hj => by
  simp only [spec_l9Fault.l0_s]
  exact Evt.f (ge_lt hj) (Evt.self _))) (fun _ => rfl) (Evt.self _))))
def spec_TreeFault_v (x0 : List Node) : Int := (spec_l9Fault_v x0)
theorem spec_TreeFault_ev (x0 : List Node) (h_x0 : (Lm smNode) x0) : Evt (fun k => spec_TreeFault.f k x0) (spec_TreeFault_v x0) :=
  (Evt.bind (spec_l9Fault_ev x0 (h_x0)) (Evt.self _))
def impl_findNode_1_v (x0 : Node) (x1 : Int) : Bool := (x0.fId == x1)
theorem impl_findNode_1_ev (x0 : Node) (x1 : Int)  : Evt (fun k => impl_findNode_1.f k x0 x1) (impl_findNode_1_v x0 x1) :=
  (Evt.self _)
def slices_IndexFunc_impl_Node_v (x0 : List Node) (x1_0 : Int) : Int := (onO ((List.range' 0 (x0.length - 0)).findSome? (fun (i0 : Nat) => (bif (impl_findNode_1_v (gt x0 (i0 : Int)) x1_0) then (some (i0 : Int)) else none))) (fun r => r) (-1))
theorem slices_IndexFunc_impl_Node_ev (x0 : List Node) (x1_0 : Int) (h_x0 : (Lm smNode) x0) : Evt (fun k => slices_IndexFunc_impl_Node.f k x0 x1_0) (slices_IndexFunc_impl_Node_v x0 x1_0) :=
  (Evt.loop (r' := fun r => r) (Evt.srch (L := (fun k i => slices_IndexFunc_impl_Node.l0 x0 x1_0 k i)) 0 x0.length (by have := h_x0; first | (have := this.1; omega) | omega) (fun (i0 : Nat) => (bif (impl_findNode_1_v (gt x0 (i0 : Int)) x1_0) then (some (i0 : Int)) else none)) (fun i0 hs2 hi2 => by
  have hbn : x0.length ≤ 9223372036854775807 := (by have := h_x0; first | (have := this.1; omega) | omega)
  simp only [slices_IndexFunc_impl_Node.l0_s]
  exact Evt_t2 (int_lt hi2) (StE.chk (by first | exact idx_ok (by omega) | exact idx_ok (by have hq := len_eq (by assumption); omega) | exact idx_found (show (0 : Int) ≤ (i0 : Int) by simp_all) | exact cut_ok (by omega) | exact or_ok (idx_ok (by omega)) | (refine or1 (fun hz => pre_ok (by simp at hz; omega) (by omega) (by omega))) | exact pre_ok (by omega) (by omega) (by omega) | (simp_all [idxOk, cutOk, leB]; done) | (simp_all [idxOk, cutOk, leB]; omega) | (simp [idxOk, cutOk, leB] at *; omega)) (StE.bind (impl_findNode_1_ev (gt x0 (i0 : Int)) x1_0) (StE.ifh (fun hc1 => (StE.ret _)) (fun hc1 => StE.next))))) (fun j hj => by
  simp only [slices_IndexFunc_impl_Node.l0_s]
  exact Evt.f (ge_lt hj) (Evt.self _))) (fun _ => rfl) (Evt.self _))
def impl_findNode_v (x0 : List Node) (x1 : Int) : Int := (slices_IndexFunc_impl_Node_v x0 x1)
theorem impl_findNode_ev (x0 : List Node) (x1 : Int) (h_x0 : (Lm smNode) x0) : Evt (fun k => impl_findNode.f k x0 x1) (impl_findNode_v x0 x1) :=
  (Evt.bind (slices_IndexFunc_impl_Node_ev x0 x1 (h_x0)) (Evt.self _))
def impl_within_v (x0 : Int) (x1 : Int) (x2 : Int) : Bool := ((decide (x1 ≤ x0)) && (decide (x0 ≤ x2)))
theorem impl_within_ev (x0 : Int) (x1 : Int) (x2 : Int)  : Evt (fun k => impl_within.f k x0 x1 x2) (impl_within_v x0 x1 x2) :=
  (Evt.self _)
def impl_isId_v (x0 : Int) : Bool := (impl_within_v x0 1 60)
theorem impl_isId_ev (x0 : Int)  : Evt (fun k => impl_isId.f k x0) (impl_isId_v x0) :=
  (Evt.bind (impl_within_ev x0 1 60) (Evt.self _))
def impl_nodeFault_v (x0 : List Node) (x1 : Node) : Int := (bif ((!(impl_isId_v x1.fId)) || (!(bif (!(!(impl_isId_v x1.fId))) then (impl_within_v x1.fHeight 1 40) else default))) then 3 else (bif (decide (0 ≤ (impl_findNode_v x0 x1.fId))) then 7 else (bif ((x1.fPrev != 0) && (decide ((impl_findNode_v x0 x1.fPrev) < 0))) then 4 else (bif (x1.fHeight != (bif ((x1.fPrev != 0) && (decide (0 ≤ (impl_findNode_v x0 x1.fPrev)))) then (wrap64 (((gt x0 (impl_findNode_v x0 x1.fPrev)).fHeight) + 1)) else 1)) then 1 else 0))))
theorem impl_nodeFault_ev (x0 : List Node) (x1 : Node) (h_x0 : (Lm smNode) x0) : Evt (fun k => impl_nodeFault.f k x0 x1) (impl_nodeFault_v x0 x1) :=
  (Evt.bind (impl_findNode_ev x0 x1.fPrev (h_x0)) (Evt.bind (Evt.ifh (fun hc0 => (Evt.chk (by first | exact idx_ok (by omega) | exact idx_ok (by have hq := len_eq (by assumption); omega) | exact idx_found (show (0 : Int) ≤ (impl_findNode_v x0 x1.fPrev) by simp_all) | exact cut_ok (by omega) | exact or_ok (idx_ok (by omega)) | (refine or1 (fun hz => pre_ok (by simp at hz; omega) (by omega) (by omega))) | exact pre_ok (by omega) (by omega) (by omega) | (simp_all [idxOk, cutOk, leB]; done) | (simp_all [idxOk, cutOk, leB]; omega) | (simp [idxOk, cutOk, leB] at *; omega)) (Evt.self _))) (fun hc0 => (Evt.self _))) (Evt.bind (impl_isId_ev x1.fId) (Evt.bind (Evt.ifh (fun _ => (impl_within_ev x1.fHeight 1 40)) (fun _ => Evt.self _)) (Evt.ifh (fun hc4 => (Evt.self _)) (fun hc4 => (Evt.bind (impl_findNode_ev x0 x1.fId (h_x0)) (Evt.ifh (fun hc3 => (Evt.self _)) (fun hc3 => (Evt.ifh (fun hc2 => (Evt.self _)) (fun hc2 => (Evt.ifh (fun hc1 => (Evt.self _)) (fun hc1 => (Evt.self _))))))))))))))
def impl_TreeFault_v (x0 : List Node) : Int := (bif (decide (60 < (x0.length : Int))) then 2 else (onO ((List.range' 0 (x0.length - 0)).findSome? (fun (i0 : Nat) => (bif ((impl_nodeFault_v (x0.take ((i0 : Int)).toNat) (gt x0 (i0 : Int))) != 0) then (some (impl_nodeFault_v (x0.take ((i0 : Int)).toNat) (gt x0 (i0 : Int)))) else none))) (fun r => r) 0))
theorem impl_TreeFault_ev (x0 : List Node) (h_x0 : (Lm smNode) x0) : Evt (fun k => impl_TreeFault.f k x0) (impl_TreeFault_v x0) :=
  (Evt.ifh (fun hc2 => (Evt.self _)) (fun hc2 => (Evt.loop (r' := fun r => r) (Evt.srch (L := (fun k i => impl_TreeFault.l0 x0 k i)) 0 x0.length (by have := h_x0; first | (have := this.1; omega) | omega) (fun (i0 : Nat) => (bif ((impl_nodeFault_v (x0.take ((i0 : Int)).toNat) (gt x0 (i0 : Int))) != 0) then (some (impl_nodeFault_v (x0.take ((i0 : Int)).toNat) (gt x0 (i0 : Int)))) else none)) (fun i0 hs2 hi2 => by
  have hbn : x0.length ≤ 9223372036854775807 := (by have := h_x0; first | (have := this.1; omega) | omega)
  simp only [impl_TreeFault.l0_s]
  exact Evt_t2 (int_lt hi2) (StE.chk (by first | exact idx_ok (by omega) | exact idx_ok (by have hq := len_eq (by assumption); omega) | exact idx_found (show (0 : Int) ≤ (i0 : Int) by simp_all) | exact cut_ok (by omega) | exact or_ok (idx_ok (by omega)) | (refine or1 (fun hz => pre_ok (by simp at hz; omega) (by omega) (by omega))) | exact pre_ok (by omega) (by omega) (by omega) | (simp_all [idxOk, cutOk, leB]; done) | (simp_all [idxOk, cutOk, leB]; omega) | (simp [idxOk, cutOk, leB] at *; omega)) (StE.chk (by first | exact idx_ok (by omega) | exact idx_ok (by have hq := len_eq (by assumption); omega) | exact idx_found (by simp_all) | exact cut_ok (by omega) | exact or_ok (idx_ok (by omega)) | (refine or1 (fun hz => pre_ok (by simp at hz; omega) (by omega) (by omega))) | exact pre_ok (by omega) (by omega) (by omega) | (simp_all [idxOk, cutOk, leB]; done) | (simp_all [idxOk, cutOk, leB]; omega) | (simp [idxOk, cutOk, leB] at *; omega)) (StE.bind (impl_nodeFault_ev (x0.take ((i0 : Int)).toNat) (gt x0 (i0 : Int)) ((Lm_take h_x0))) (StE.ifh (fun hc1 => (StE.ret _)) (fun hc1 => StE.next)))))) (fun j hj => by
  simp only [impl_TreeFault.l0_s]
  exact Evt.f (ge_lt hj) (Evt.self _))) (fun _ => rfl) (Evt.self _))))
theorem eqNode_ev (x : Node) (h : smNode x) : Evt (fun k => laws_eqNode.f k x x) true := Evt.f (by simp [sEq_refl]) (Evt.f (by simp [sEq_refl]) (Evt.f (by simp [sEq_refl]) (Evt.self _)))
theorem eqNodeS_ev (x : List Node) (h : (Lm smNode) x) : Evt (fun k => laws_eqNodeS.f k x x) true := by
  have hn := h.1
  refine (Evt.eqr (L := fun k i => laws_eqNodeS.l0 x x k i) (fun _ _ => true) x x (by omega) (fun i h1 h2 o ht hf => ?_) ?_).to (eqRows_refl (fun _ => rfl) x)
  · refine Evt.s ?_
    simp only [laws_eqNodeS.l0_s]
    exact Evt.t (int_lt h1) (Evt.chk (idx_ok h1) (Evt.chk (idx_ok h2) (Evt.bind (eqNode_ev _ (h.2 _ (gt_mem h1))) (Evt.f rfl (ht rfl)))))
  · refine Evt.s ?_
    simp only [laws_eqNodeS.l0_s]
    exact Evt.f int_nlt (Evt.self _)
theorem findNode_same (xs : List Node) (x : Int) : impl_findNode_v xs x = spec_l9At_v xs x := by
  simp only [impl_findNode_v, slices_IndexFunc_impl_Node_v, impl_findNode_1_v, spec_l9At_v]
theorem nodeFault_same (xs : List Node) (x : Node) : impl_nodeFault_v xs x = spec_l9Node_v xs x := by
  simp only [impl_nodeFault_v, spec_l9Node_v, findNode_same, impl_isId_v, impl_within_v, spec_l1In_v]
  generalize spec_l9At_v xs x.fPrev = a
  generalize spec_l9At_v xs x.fId = b
  generalize (decide (1 ≤ x.fId) && decide (x.fId ≤ 60)) = c
  generalize (decide (1 ≤ x.fHeight) && decide (x.fHeight ≤ 40)) = d
  generalize (x.fPrev != 0) = p
  generalize (gt xs a).fHeight = g
  have e1 : wrap64 1 = 1 := by unfold wrap64; omega
  by_cases ha : a < 0
  · have h2 : ¬ 0 ≤ a := by omega
    by_cases hb : 0 ≤ b <;> cases p <;> cases c <;> cases d <;> simp [ha, h2, hb, onw, e1]
  · have h2 : 0 ≤ a := by omega
    by_cases hb : 0 ≤ b <;> cases p <;> cases c <;> cases d <;> simp [ha, h2, hb, onw, e1]
theorem same_FnExactTreeFault (x0 : List Node) (h0 : Lm smNode x0) (o0 : Lok okNode x0) : impl_TreeFault_v x0 = spec_TreeFault_v x0 := by
  simp only [impl_TreeFault_v, spec_TreeFault_v, spec_l9Fault_v, nodeFault_same]
end Go.Proofs.Ytkofpnbacgccnaa.Zk
namespace Go.Proofs.Ytkofpnbacgccnaa.Pure
open Go Go.Proofs.Ytkofpnbacgccnaa.Zk
theorem FnExactTreeFault (x0 : List Zk.Node) (o_x0 : (Lok okNode) x0) : ∃ k, laws_FnExactTreeFault.f k x0 = some true := by
  refine Evt.get ?_
  obtain ⟨t0, e0, l0, s0⟩ := szNodeS_ev x0 o_x0 1048576 (by omega) (by omega)
  by_cases c0 : t0 < 0
  · exact Evt.bind e0 (Evt.t (by simpa using c0) (Evt.self _))
  refine Evt.bind e0 (Evt.f (by simpa using c0) ?_)
  have m0 := s0 (by omega)
  refine Evt.bind (toNodeS_ev x0 (m0)) ?_
  refine Evt.bind (spec_TreeFault_ev x0 (m0)) ?_
  refine Evt.bind (toNodeS_ev x0 (m0)) ?_
  refine Evt.bind ((impl_TreeFault_ev x0 (m0)).to (same_FnExactTreeFault x0 (m0) o_x0)) ?_
  refine Evt.f (by simp) ?_
  refine Evt.bind (toNodeS_ev x0 (m0)) ?_
  refine Evt.bind (eqNodeS_ev _ (m0)) (Evt.f rfl ?_)
  exact Evt.self _
end Go.Proofs.Ytkofpnbacgccnaa.Pure
