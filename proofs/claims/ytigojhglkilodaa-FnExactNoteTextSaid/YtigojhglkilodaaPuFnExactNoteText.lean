/- The plain law of FnExactNoteText: what the program's function and the reference's compute is the same. No condition. -/
import Derived.Test.YtigojhglkilodaaZkPure
import Derived.Test.YtigojhglkilodaaNoteTextZkOpn
import Derived.Test.YtigojhglkilodaaNoteTextZkF3
namespace Go.Proofs.Ytigojhglkilodaa.Zk
open Go Go.RowKit Go.IntWalk
set_option linter.unusedVariables false
set_option linter.unusedSimpArgs false

def szL (n : Nat) (l : Int) : Int := bif decide (wrap64 (l - n) < 0) then -1 else wrap64 (l - n)
theorem szL_ok {n : Nat} {l : Int} (h : decide (szL n l < 0) = false) (h0 : 0 ≤ l) (h1 : l ≤ 1048576) (hn : n ≤ maxLen) : (n : Int) ≤ l ∧ szL n l = l - n := by
  unfold szL at *
  have hn' : n ≤ 9223372036854775807 := by simpa [maxLen] using hn
  have e : wrap64 (l - n) = l - n := by unfold wrap64; omega
  rw [e] at h ⊢
  by_cases hc : l - (n : Int) < 0
  · rw [decide_eq_true hc] at h; cases h
  · rw [decide_eq_false hc]; exact ⟨by omega, rfl⟩
theorem szL_le {n : Nat} {l : Int} (h0 : 0 ≤ l) (h1 : l ≤ 1048576) (hn : n ≤ maxLen) : szL n l ≤ l := by
  unfold szL
  have hn' : n ≤ 9223372036854775807 := by simpa [maxLen] using hn
  have e : wrap64 (l - n) = l - n := by unfold wrap64; omega
  rw [e]
  by_cases hc : l - (n : Int) < 0
  · rw [decide_eq_true hc]; show (-1 : Int) ≤ l; omega
  · rw [decide_eq_false hc]; show l - (n : Int) ≤ l; omega
theorem nn {l : Int} (h : decide (l < 0) = false) : 0 ≤ l := by simpa using h
abbrev tr {α : Type} (x : α) : Prop := True
def Lm {α : Type} (sm : α → Prop) (xs : List α) : Prop := xs.length ≤ 1048576 ∧ ∀ x ∈ xs, sm x
theorem gt_mem {α : Type} [Inhabited α] {xs : List α} {i : Nat} (h : i < xs.length) : gt xs (i : Int) ∈ xs := by
  rw [gt_eq (i := (i : Int)) (by simpa using h)]
  exact List.getElem_mem _
/-- Sizes, added up. -/
theorem Evt.szl {α : Type} [Inhabited α] {L : Nat → Int → Int → Option (Int ⊕ Int)} {sm : α → Prop} (xs : List α) (hn : xs.length ≤ 9223372036854775807)
    (step : ∀ i, i < xs.length → ∀ left, 0 ≤ left → left ≤ 1048576 → ∃ t, t ≤ left ∧ (0 ≤ t → sm (gt xs (i : Int))) ∧ (t < 0 → Evt (fun k => L k left (i : Int)) (.inl (-1))) ∧ ∀ o, 0 ≤ t → Evt (fun k => L k t (wrap64 ((i : Int) + 1))) o → Evt (fun k => L k left (i : Int)) o)
    (done : ∀ left, Evt (fun k => L k left (xs.length : Int)) (.inr left)) (l : Int) (h0 : 0 ≤ l) (h1 : l ≤ 1048576) :
    ∃ o, Evt (fun k => L k l 0) o ∧ match o with | .inl r => r = -1 | .inr t => 0 ≤ t ∧ t ≤ l ∧ ∀ x ∈ xs, sm x := by
  have key : ∀ d i l, i + d = xs.length → 0 ≤ l → l ≤ 1048576 → ∃ o, Evt (fun k => L k l (i : Int)) o ∧ match o with | .inl r => r = -1 | .inr t => 0 ≤ t ∧ t ≤ l ∧ ∀ j, i ≤ j → j < xs.length → sm (gt xs (j : Int)) := by
    intro d
    induction d with
    | zero =>
      intro i l hi h0 h1
      have e : i = xs.length := by omega
      subst e
      exact ⟨_, done l, h0, by omega, fun j h2 h3 => by omega⟩
    | succ d ih =>
      intro i l hi h0 h1
      obtain ⟨t, a1, a2, a3, a4⟩ := step i (by omega) l h0 h1
      by_cases c : t < 0
      · exact ⟨_, a3 c, rfl⟩
      · obtain ⟨o, b1, b2⟩ := ih (i + 1) t (by omega) (by omega) (by omega)
        refine ⟨o, a4 o (by omega) (by rw [w64 (by omega : i < xs.length) hn]; exact b1), ?_⟩
        cases o with
        | inl r => exact b2
        | inr u =>
          refine ⟨b2.1, by have := b2.2.1; omega, fun j h2 h3 => ?_⟩
          by_cases e : j = i
          · subst e; exact a2 (by omega)
          · exact b2.2.2 j (by omega) h3
  obtain ⟨o, b1, b2⟩ := key xs.length 0 l (by omega) h0 h1
  refine ⟨o, b1, ?_⟩
  cases o with
  | inl r => exact b2
  | inr u =>
    refine ⟨b2.1, b2.2.1, fun x hx => ?_⟩
    obtain ⟨j, hj, e⟩ := List.getElem_of_mem hx
    have := b2.2.2 j (by omega) hj
    rw [gt_eq (i := (j : Int)) (by simpa using hj)] at this
    simpa [e] using this

theorem Evt_t2 {β : Type} {f g nxt : Nat → Option (β ⊕ Unit)} {c : Bool} {v : Option β} (hc : c = true) (h : StE f nxt v) : StE (fun n => bif c then f n else g n) nxt v := by subst hc; exact h
theorem Lm_take {α : Type} {sm : α → Prop} {xs : List α} {n : Nat} (h : Lm sm xs) : Lm sm (xs.take n) := ⟨by have := h.1; rw [List.length_take]; omega, fun x hx => h.2 x (List.mem_of_mem_take hx)⟩
theorem Lm_drop {α : Type} {sm : α → Prop} {xs : List α} {n : Nat} (h : Lm sm xs) : Lm sm (xs.drop n) := ⟨by have := h.1; rw [List.length_drop]; omega, fun x hx => h.2 x (List.mem_of_mem_drop hx)⟩
/-! searches, told by 'any' -/
theorem found_any {β γ : Type} (l : List Nat) (p : Nat → Bool) (a : β) (r : β → γ) (c : γ) : onO (l.findSome? fun i => bif p i then some a else none) r c = bif l.any p then r a else c := by
  induction l with
  | nil => rfl
  | cons i l ih =>
    rw [List.findSome?_cons, List.any_cons]
    cases p i
    · simpa using ih
    · rfl
theorem idx_any (l : List Nat) (p : Nat → Bool) : decide (0 ≤ onO (l.findSome? fun i => bif p i then some (i : Int) else none) (fun r => r) (-1)) = l.any p := by
  induction l with
  | nil => rfl
  | cons i l ih =>
    rw [List.findSome?_cons, List.any_cons]
    cases p i
    · simpa using ih
    · simp [onO]
theorem band1 {c d e : Bool} : (c && (bif c then d else e)) = (c && d) := by cases c <;> rfl
theorem bor1 {c d e : Bool} : (c || (bif !c then d else e)) = (c || d) := by cases c <;> rfl
theorem bnn1 {c d e : Bool} : ((!c) || (!(bif (!(!c)) then d else e))) = ((!c) || (!d)) := by cases c <;> rfl
theorem bnn2 {c d : Bool} : ((!c) || (!d)) = !(c && d) := by cases c <;> rfl
theorem bnn3 {c d e : Bool} : ((!c) || (!(bif !(!c) then d else e))) = !(c && d) := by cases c <;> rfl
theorem bn_n {c d e : Bool} : (!c || !(bif c then d else e)) = !(c && d) := by cases c <;> rfl
theorem rng1 {a lo hi : Int} : (decide (a < lo) || decide (hi < a)) = !(decide (lo ≤ a) && decide (a ≤ hi)) := by
  by_cases h1 : a < lo
  · have : ¬ lo ≤ a := by omega
    simp [h1, this]
  · have h2 : lo ≤ a := by omega
    by_cases h3 : hi < a
    · have : ¬ a ≤ hi := by omega
      simp [h1, h2, h3, this]
    · have : a ≤ hi := by omega
      simp [h1, h2, h3, this]
theorem at_any (l : List Nat) (p : Nat → Bool) (h : ∀ i ∈ l, i < 4611686018427387904) : decide (0 < onO (l.findSome? fun i => bif p i then some (wrap64 ((i : Int) + 1)) else none) (fun r => r) 0) = l.any p := by
  induction l with
  | nil => rfl
  | cons i l ih =>
    rw [List.findSome?_cons, List.any_cons]
    have hi := h i (by simp)
    have hl : ∀ j ∈ l, j < 4611686018427387904 := fun j hj => h j (List.mem_cons_of_mem _ hj)
    clear h
    cases p i
    · exact ih hl
    · have e : wrap64 ((i : Int) + 1) = (i : Int) + 1 := by unfold wrap64; omega
      rw [e]
      show decide (0 < (i : Int) + 1) = true
      exact decide_eq_true (by omega)
theorem fs_congr {β : Type} {l : List Nat} {f g : Nat → Option β} (h : ∀ i ∈ l, f i = g i) : l.findSome? f = l.findSome? g := by
  induction l with
  | nil => rfl
  | cons i l ih => rw [List.findSome?_cons, List.findSome?_cons, h i (by simp), ih fun j hj => h j (by simp [hj])]
theorem any_congr' {l : List Nat} {f g : Nat → Bool} (h : ∀ i ∈ l, f i = g i) : l.any f = l.any g := by
  induction l with
  | nil => rfl
  | cons i l ih => rw [List.any_cons, List.any_cons, h i (by simp), ih fun j hj => h j (by simp [hj])]
theorem in_range {i n : Nat} (h : i ∈ List.range' 0 (n - 0)) : i < n := by
  have := List.mem_range'_1.1 h
  omega
theorem gt_take {α : Type} [Inhabited α] {xs : List α} {n j : Nat} (h : j < n) : gt (xs.take n) (j : Int) = gt xs (j : Int) := by
  unfold gt
  have e : ((j : Int)).toNat = j := by simp
  rw [e, List.getD_eq_getElem?_getD, List.getD_eq_getElem?_getD, List.getElem?_take, if_pos h]
theorem any_take {α : Type} [Inhabited α] {xs : List α} {i : Nat} (h : i ≤ xs.length) (p : α → Bool) :
    (List.range' 0 ((xs.take i).length - 0)).any (fun j => p (gt (xs.take i) (j : Int))) = (List.range' 0 (i - 0)).any (fun j => p (gt xs (j : Int))) := by
  have e : (xs.take i).length = i := by rw [List.length_take]; omega
  rw [e]
  exact any_congr' fun j hj => by rw [gt_take (in_range hj)]
theorem sEq_comm (a b : ByteArray) : sEq a b = sEq b a := by unfold sEq; exact BEq.comm
theorem bifb {b : Bool} : (bif b then true else false) = b := by cases b <;> rfl
theorem idx_found {n : Nat} {p : Nat → Bool} (h : 0 ≤ onO ((List.range' 0 (n - 0)).findSome? fun i => bif p i then some (i : Int) else none) (fun r => r) (-1)) : idxOk (onO ((List.range' 0 (n - 0)).findSome? fun i => bif p i then some (i : Int) else none) (fun r => r) (-1)) n = true := by
  have key : ∀ l : List Nat, (∀ i ∈ l, i < n) → 0 ≤ onO (l.findSome? fun i => bif p i then some (i : Int) else none) (fun r => r) (-1) → idxOk (onO (l.findSome? fun i => bif p i then some (i : Int) else none) (fun r => r) (-1)) n = true := by
    intro l
    induction l with
    | nil => intro _ h; exact absurd h (by show ¬ (0 : Int) ≤ -1; omega)
    | cons i l ih =>
      intro hl h
      rw [List.findSome?_cons] at h ⊢
      cases hp : p i
      · rw [hp] at h; exact ih (fun j hj => hl j (List.mem_cons_of_mem _ hj)) h
      · exact idx_ok (hl i (List.mem_cons_self ..))
  exact key _ (fun i hi => in_range hi) h
theorem cut_ok {i n : Nat} (h : i ≤ n) : cutOk (i : Int) n = true := by unfold cutOk; simp; omega
theorem len_eq {a b : Nat} (h : ((a : Int) != (b : Int)) = false) : a = b := by
  by_cases e : a = b
  · exact e
  · have : ((a : Int) != (b : Int)) = true := by simp; omega
    rw [this] at h; cases h

abbrev smSign (x : Sign) : Prop := tr x.fKey ∧ tr x.fId
abbrev smLedger (x : Ledger) : Prop := (Lm tr) x.fTexts ∧ (Lm smSign) x.fSigns
abbrev smLedgerResult (x : LedgerResult) : Prop := tr x.fCode ∧ tr x.fId ∧ smLedger x.fLedger
/-! ### Rows marked, and held so -/
theorem chkT {α : Type} (t : Option α) : Zk.chk true t = t := rfl
theorem gt_set {α : Type} [Inhabited α] {xs : List α} {i : Nat} (h : i < xs.length) (a : α) : gt (xs.set i a) (i : Int) = a := by
  rw [gt_eq (by simpa using h)]; simp
theorem mark_held {α : Type} [Inhabited α] (L : Nat → List α → Int → Int → Option (List α × Int)) (H : List α → Nat → Int → Int → Option (Int ⊕ Int)) (B : Prop) (c : Int) (hc : 0 ≤ c) (p : α → Prop)
    (step : ∀ (acc : List α) (s : Int) (i : Nat), i < acc.length → p (gt acc (i : Int)) → 1 ≤ s → s + c ≤ 4611686018427387904 → ∃ y t, s ≤ t ∧ t ≤ s + c ∧ (∀ r, Evt (fun k => L k (acc.set i y) t (wrap64 ((i : Int) + 1))) r → Evt (fun k => L (k + 1) acc s (i : Int)) r) ∧
      (B → ∀ ys : List α, i < ys.length → gt ys (i : Int) = y → ∀ r, Evt (fun k => H ys k t (wrap64 ((i : Int) + 1))) r → Evt (fun k => H ys (k + 1) s (i : Int)) r))
    (doneL : ∀ (acc : List α) (s : Int), Evt (fun k => L (k + 1) acc s (acc.length : Int)) (acc, s)) (doneH : B → ∀ (ys : List α) (s : Int), Evt (fun k => H ys (k + 1) s (ys.length : Int)) (.inr s))
    (xs : List α) (hn : xs.length ≤ 9223372036854775807) (hp : ∀ x ∈ xs, p x) (s : Int) (h1 : 1 ≤ s) (h2 : s + xs.length * c ≤ 4611686018427387904) :
    ∃ ys t, ys.length = xs.length ∧ s ≤ t ∧ t ≤ s + xs.length * c ∧ Evt (fun k => L k xs s 0) (ys, t) ∧ (B → Evt (fun k => H ys k s 0) (.inr t)) := by
  have key : ∀ (d i : Nat) (acc : List α) (s : Int), i + d = xs.length → acc.length = xs.length → (∀ j, i ≤ j → acc[j]? = xs[j]?) → 1 ≤ s → s + d * c ≤ 4611686018427387904 →
      ∃ ys t, ys.length = xs.length ∧ (∀ j, j < i → ys[j]? = acc[j]?) ∧ s ≤ t ∧ t ≤ s + d * c ∧ Evt (fun k => L k acc s (i : Int)) (ys, t) ∧ (B → Evt (fun k => H ys k s (i : Int)) (.inr t)) := by
    intro d
    induction d with
    | zero =>
      intro i acc s hi hl _ h1 h2
      have e : (i : Int) = (acc.length : Int) := by omega
      exact ⟨acc, s, hl, fun _ _ => rfl, by omega, by omega, by rw [e]; exact Evt.s (doneL acc s), fun hB => by rw [e]; exact Evt.s (doneH hB acc s)⟩
    | succ d ih =>
      intro i acc s hi hl hj h1 h2
      have e : ((d + 1 : Nat) : Int) * c = d * c + c := by rw [Int.natCast_add, Int.add_mul]; simp
      have hdc : 0 ≤ (d : Int) * c := Int.mul_nonneg (by omega) hc
      rw [e] at h2
      have hlt : i < acc.length := by omega
      have hpx : p (gt acc (i : Int)) := by
        rw [gt_eq (by simpa using hlt)]
        have h5 := hj i (Nat.le_refl _)
        rw [List.getElem?_eq_getElem hlt] at h5
        exact hp _ (List.mem_of_getElem? h5.symm)
      obtain ⟨y, t1, a1, a2, a3, a4⟩ := step acc s i hlt hpx h1 (by omega)
      obtain ⟨ys, t, b1, b2, b3, b4, b5, b6⟩ := ih (i + 1) (acc.set i y) t1 (by omega) (by simp [hl]) (fun j hj' => by rw [List.getElem?_set_ne (by omega)]; exact hj j (by omega)) (by omega) (by omega)
      have hy : gt ys (i : Int) = y := by
        have h6 := b2 i (by omega)
        rw [List.getElem?_set_self hlt] at h6
        rw [gt_eq (by simp; omega)]
        have h7 : i < ys.length := by omega
        rw [List.getElem?_eq_getElem h7] at h6
        simpa using h6
      refine ⟨ys, t, b1, fun j hj' => ?_, by omega, by rw [e]; omega, Evt.s (a3 _ ?_), fun hB => Evt.s (a4 hB ys (by omega) hy _ ?_)⟩
      · rw [b2 j (by omega), List.getElem?_set_ne (by omega)]
      · rw [w64 (by omega : i < xs.length) hn]; exact b5
      · rw [w64 (by omega : i < xs.length) hn]; exact b6 hB
  obtain ⟨ys, t, a1, _, a3, a4, a5, a6⟩ := key xs.length 0 xs s (by omega) rfl (fun _ _ => rfl) h1 h2
  exact ⟨ys, t, a1, a3, a4, a5, a6⟩
/-! ### What is gathered in a row -/
theorem len_bif {α : Type} {c : Bool} {a b : List α} {n : Nat} (h : a.length ≤ n) (k : b.length ≤ n) : (bif c then a else b).length ≤ n := by cases c; exact k; exact h
theorem Evt.gatherL {σ : Type} {L : Nat → List σ → Int → Option (List σ)} (n : Nat) (hn : n ≤ 1048576) (st : List σ → Nat → List σ)
    (len : ∀ i, i < n → ∀ a, a.length ≤ i → (st a i).length ≤ i + 1)
    (step : ∀ i, i < n → ∀ a, a.length ≤ i → ∀ o, Evt (fun k => L k (st a i) (wrap64 ((i : Int) + 1))) o → Evt (fun k => L (k + 1) a (i : Int)) o)
    (done : ∀ (i : Nat) a, n ≤ i → Evt (fun k => L (k + 1) a (i : Int)) a) : Evt (fun k => L k [] 0) ((List.range' 0 (n - 0)).foldl st []) := by
  have key : ∀ d i (a : List σ), (i + d = n ∨ n ≤ i ∧ d = 0) → a.length ≤ i → Evt (fun k => L k a (i : Int)) ((List.range' i d).foldl st a) := by
    intro d
    induction d with
    | zero => intro i a hi _; exact Evt.s (done i a (by omega))
    | succ d ih =>
      intro i a hi ha
      rw [List.range'_succ, List.foldl_cons]
      refine Evt.s (step i (by omega) a ha _ ?_)
      rw [w64 (by omega : i < n) (by omega)]
      exact ih (i + 1) (st a i) (by omega) (len i (by omega) a ha)
  exact key (n - 0) 0 [] (by omega) (by simp)
theorem fold_len {σ : Type} (st : List σ → Nat → List σ) (h : ∀ a i, (st a i).length ≤ a.length + 1) : ∀ (l : List Nat) (a : List σ), (l.foldl st a).length ≤ a.length + l.length
  | [], a => by simp
  | i :: l, a => by
    have h1 := fold_len st h l (st a i)
    have h2 := h a i
    simp only [List.foldl_cons, List.length_cons]; omega
theorem fold_len0 {σ : Type} (st : List σ → Nat → List σ) (h : ∀ a i, (st a i).length ≤ a.length + 1) (n : Nat) : ((List.range' 0 (n - 0)).foldl st []).length ≤ n := by
  have := fold_len st h (List.range' 0 (n - 0)) []
  simpa using this
theorem szStringS_ev (x : List ByteArray) (o : (Lok sOk) x) (l : Int) (h0 : 0 ≤ l) (h1 : l ≤ 1048576) : ∃ t, Evt (fun k => laws_szStringS.f k x l) t ∧ t ≤ l ∧ (0 ≤ t → (Lm tr) x) := by
  have hn := o.1
  have hn' : x.length ≤ 9223372036854775807 := by simpa [maxLen] using hn
  by_cases c : decide (szL x.length l < 0) = true
  · refine ⟨-1, (Evt.t (f := fun _ => some (-1)) ?_ (Evt.self _)), by omega, fun h => by omega⟩
    have e : wrap64 (l - (x.length : Int)) = l - (x.length : Int) := by unfold wrap64; omega
    rw [e]
    by_cases c2 : l - (x.length : Int) < 0
    · exact decide_eq_true c2
    · unfold szL at c; rw [e, decide_eq_false c2] at c; simp at c; omega
  have c' : decide (szL x.length l < 0) = false := by simpa using c
  obtain ⟨h2, h3⟩ := szL_ok c' h0 h1 hn
  have e : wrap64 (l - (x.length : Int)) = l - (x.length : Int) := by unfold wrap64; omega
  obtain ⟨r, hr, hr2⟩ := Evt.szl (L := fun k left i => laws_szStringS.l0 x k left i) (sm := tr) x hn' (fun i hi left a0 a1 => by
    have hs := o.2 _ (gt_mem hi)
    have hs' : (gt x (i : Int)).size ≤ 9223372036854775807 := by simpa [maxLen, sOk] using hs
    have e : wrap64 (left - ((gt x (i : Int)).size : Int)) = left - ((gt x (i : Int)).size : Int) := by unfold wrap64; omega
    refine ⟨left - ((gt x (i : Int)).size : Int), by omega, fun _ => trivial, fun c => ?_, fun o c ho => ?_⟩
    · refine Evt.s ?_
      simp only [laws_szStringS.l0_s]
      exact Evt.t (int_lt hi) (Evt.chk (idx_ok hi) (Evt.t (by rw [e]; simpa using c) (Evt.self _)))
    · refine Evt.s ?_
      simp only [laws_szStringS.l0_s]
      exact Evt.t (int_lt hi) (Evt.chk (idx_ok hi) (Evt.f (by rw [e]; simpa using c) (by rw [e]; exact ho)))) (fun left => by
    refine Evt.s ?_
    simp only [laws_szStringS.l0_s]
    exact Evt.f int_nlt (Evt.self _)) (l - (x.length : Int)) (by omega) (by omega)
  refine ⟨onw r id id, Evt.f (by rw [e]; simpa using h2) (Evt.thn (r' := id) (g' := id) (by rw [e]; exact hr) (fun _ => rfl) (fun y _ => Evt.self y)), ?_, ?_⟩
  · cases r with
    | inl r => have h5 : r = -1 := hr2; subst h5; show (-1 : Int) ≤ l; omega
    | inr t => have h5 : 0 ≤ t ∧ t ≤ l - (x.length : Int) ∧ _ := hr2; show t ≤ l; omega
  · intro h
    cases r with
    | inl r => have h5 : r = -1 := hr2; subst h5; simp [onw] at h
    | inr t => have h5 : 0 ≤ t ∧ t ≤ l - (x.length : Int) ∧ _ := hr2; exact ⟨by omega, h5.2.2⟩
theorem szSignS_ev (x : List Sign) (o : (Lok okSign) x) (l : Int) (h0 : 0 ≤ l) (h1 : l ≤ 1048576) : ∃ t, Evt (fun k => laws_szSignS.f k x l) t ∧ t ≤ l ∧ (0 ≤ t → (Lm smSign) x) := by
  have hn := o.1
  exact ⟨szL x.length l, Evt.if_ (Evt.self _) (Evt.self _), szL_le h0 h1 hn, fun h => ⟨by have := szL_ok (n := x.length) (l := l) (by simpa using h) h0 h1 hn; omega, by simp⟩⟩
theorem szLedger_ev (x : Ledger) (o : okLedger x) (l : Int) (h0 : 0 ≤ l) (h1 : l ≤ 1048576) : ∃ t, Evt (fun k => laws_szLedger.f k x l) t ∧ t ≤ l ∧ (0 ≤ t → smLedger x) := by
  obtain ⟨t0, e0, l0, s0⟩ := szStringS_ev x.fTexts o.1 l (by omega) (by omega)
  by_cases c0 : t0 < 0
  · exact ⟨-1, Evt.bind e0 (Evt.t (by simpa using c0) (Evt.self _)), by omega, fun h => by omega⟩
  obtain ⟨t1, e1, l1, s1⟩ := szSignS_ev x.fSigns o.2 t0 (by omega) (by omega)
  by_cases c1 : t1 < 0
  · exact ⟨-1, Evt.bind e0 (Evt.f (by simpa using c0) (Evt.bind e1 (Evt.t (by simpa using c1) (Evt.self _)))), by omega, fun h => by omega⟩
  exact ⟨t1, Evt.bind e0 (Evt.f (by simpa using c0) (Evt.bind e1 (Evt.f (by simpa using c1) (Evt.self _)))), by omega, fun _ => ⟨s0 (by omega), s1 (by omega)⟩⟩
theorem toStringS_ev (x : List ByteArray) (h : (Lm tr) x) : Evt (fun k => laws_toStringS.f k x) x := by
  have hn := h.1
  refine Evt.chk (by simp) (Evt.chk (by simp [leB]; omega) (Evt.bind (a := x) ?_ (Evt.self _)))
  have := Evt.copy (L := fun k acc i => laws_toStringS.l0 x k acc i) x id (by omega) (fun acc i hl hi r hr => ?_) (fun acc => ?_) (List.replicate ((x.length : Int)).toNat (⟨#[]⟩ : ByteArray)) (by simp)
  · simpa using this
  · refine Evt.s ?_
    simp only [laws_toStringS.l0_s]
    refine Evt.t (int_lt hi) (Evt.chk (idx_ok hi) (Evt.chk (idx_ok (hl ▸ hi)) ?_))
    simpa using hr
  · refine Evt.s ?_
    simp only [laws_toStringS.l0_s]
    exact Evt.f int_nlt (Evt.self _)
theorem toSign_ev (x : Sign) (h : smSign x) : Evt (fun k => laws_toSign.f k x) x := Evt.self _
theorem toSignS_ev (x : List Sign) (h : (Lm smSign) x) : Evt (fun k => laws_toSignS.f k x) x := by
  have hn := h.1
  refine Evt.chk (by simp) (Evt.chk (by simp [leB]; omega) (Evt.bind (a := x) ?_ (Evt.self _)))
  have := Evt.copy (L := fun k acc i => laws_toSignS.l0 x k acc i) x id (by omega) (fun acc i hl hi r hr => ?_) (fun acc => ?_) (List.replicate ((x.length : Int)).toNat (⟨0, 0⟩ : Sign)) (by simp)
  · simpa using this
  · refine Evt.s ?_
    simp only [laws_toSignS.l0_s]
    refine Evt.t (int_lt hi) (Evt.chk (idx_ok hi) (Evt.bind (toSign_ev _ (h.2 _ (gt_mem hi))) (Evt.chk (idx_ok (hl ▸ hi)) ?_)))
    simpa using hr
  · refine Evt.s ?_
    simp only [laws_toSignS.l0_s]
    exact Evt.f int_nlt (Evt.self _)
theorem toLedger_ev (x : Ledger) (h : smLedger x) : Evt (fun k => laws_toLedger.f k x) x := Evt.bind (toStringS_ev _ h.1) (Evt.bind (toSignS_ev _ h.2) (Evt.self _))
def spec_l1At_v (x0 : List ByteArray) (x1 : ByteArray) : Int := (onO ((List.range' 0 (x0.length - 0)).findSome? (fun (i0 : Nat) => (bif (sEq (gt x0 (i0 : Int)) x1) then (some (wrap64 ((i0 : Int) + 1))) else none))) (fun r => r) 0)
theorem spec_l1At_ev (x0 : List ByteArray) (x1 : ByteArray) (h_x0 : (Lm tr) x0) : Evt (fun k => spec_l1At.f k x0 x1) (spec_l1At_v x0 x1) :=
  (Evt.loop (r' := fun r => r) (Evt.srch (L := (fun k i => spec_l1At.l0 x0 x1 k i)) 0 x0.length (by have := h_x0; first | (have := this.1; omega) | omega) (fun (i0 : Nat) => (bif (sEq (gt x0 (i0 : Int)) x1) then (some (wrap64 ((i0 : Int) + 1))) else none)) (fun i0 hs2 hi2 => by
  have hbn : x0.length ≤ 9223372036854775807 := (by have := h_x0; first | (have := this.1; omega) | omega)
  simp only [spec_l1At.l0_s]
  exact Evt_t2 (int_lt hi2) (StE.chk (by first | exact idx_ok (by omega) | exact idx_ok (by have hq := len_eq (by assumption); omega) | exact idx_found (show (0 : Int) ≤ (i0 : Int) by simp_all) | exact cut_ok (by omega) | exact or_ok (idx_ok (by omega)) | (refine or1 (fun hz => pre_ok (by simp at hz; omega) (by omega) (by omega))) | exact pre_ok (by omega) (by omega) (by omega) | (simp_all [idxOk, cutOk, leB]; done) | (simp_all [idxOk, cutOk, leB]; omega) | (simp [idxOk, cutOk, leB] at *; omega) | (have hf0 := h_x0.1; simp only [leB, decide_eq_true_eq, List.length_append, List.length_cons, List.length_nil]; omega)) (StE.ifh (fun hc1 => (StE.ret _)) (fun hc1 => StE.next)))) (fun j hj => by
  simp only [spec_l1At.l0_s]
  exact Evt.f (ge_lt hj) (Evt.self _))) (fun _ => rfl) (Evt.self _))
def spec_l1In_v (x0 : Int) (x1 : Int) (x2 : Int) : Bool := ((decide (x1 ≤ x0)) && (decide (x0 ≤ x2)))
theorem spec_l1In_ev (x0 : Int) (x1 : Int) (x2 : Int)  : Evt (fun k => spec_l1In.f k x0 x1 x2) (spec_l1In_v x0 x1 x2) :=
  (Evt.self _)
def spec_l1Key_v (x0 : Int) : Bool := (spec_l1In_v x0 1 999)
theorem spec_l1Key_ev (x0 : Int)  : Evt (fun k => spec_l1Key.f k x0) (spec_l1Key_v x0) :=
  (Evt.bind (spec_l1In_ev x0 1 999) (Evt.self _))
def spec_l1Signed_v (x0 : List Sign) (x1 : Sign) : Bool := (onO ((List.range' 0 (x0.length - 0)).findSome? (fun (i0 : Nat) => (bif ((((gt x0 (i0 : Int)).fKey) == x1.fKey) && (((gt x0 (i0 : Int)).fId) == x1.fId)) then (some true) else none))) (fun r => r) false)
theorem spec_l1Signed_ev (x0 : List Sign) (x1 : Sign) (h_x0 : (Lm smSign) x0) : Evt (fun k => spec_l1Signed.f k x0 x1) (spec_l1Signed_v x0 x1) :=
  (Evt.loop (r' := fun r => r) (Evt.srch (L := (fun k i => spec_l1Signed.l0 x0 x1 k i)) 0 x0.length (by have := h_x0; first | (have := this.1; omega) | omega) (fun (i0 : Nat) => (bif ((((gt x0 (i0 : Int)).fKey) == x1.fKey) && (((gt x0 (i0 : Int)).fId) == x1.fId)) then (some true) else none)) (fun i0 hs2 hi2 => by
  have hbn : x0.length ≤ 9223372036854775807 := (by have := h_x0; first | (have := this.1; omega) | omega)
  simp only [spec_l1Signed.l0_s]
  exact Evt_t2 (int_lt hi2) (StE.chk (by first | exact idx_ok (by omega) | exact idx_ok (by have hq := len_eq (by assumption); omega) | exact idx_found (show (0 : Int) ≤ (i0 : Int) by simp_all) | exact cut_ok (by omega) | exact or_ok (idx_ok (by omega)) | (refine or1 (fun hz => pre_ok (by simp at hz; omega) (by omega) (by omega))) | exact pre_ok (by omega) (by omega) (by omega) | (simp_all [idxOk, cutOk, leB]; done) | (simp_all [idxOk, cutOk, leB]; omega) | (simp [idxOk, cutOk, leB] at *; omega) | (have hf0 := h_x0.1; simp only [leB, decide_eq_true_eq, List.length_append, List.length_cons, List.length_nil]; omega)) (StE.ifh (fun hc1 => (StE.ret _)) (fun hc1 => StE.next)))) (fun j hj => by
  simp only [spec_l1Signed.l0_s]
  exact Evt.f (ge_lt hj) (Evt.self _))) (fun _ => rfl) (Evt.self _))
def spec_l1Fault_v (x0 : Ledger) : Int := (bif ((decide (60 < (x0.fTexts.length : Int))) || (decide (120 < (x0.fSigns.length : Int)))) then 2 else (onO ((List.range' 0 (x0.fTexts.length - 0)).findSome? (fun (i0 : Nat) => (bif ((decide (((gt x0.fTexts (i0 : Int)).size : Int) < 1)) || (decide (300 < ((gt x0.fTexts (i0 : Int)).size : Int)))) then (some 2) else (bif (decide (0 < (spec_l1At_v (x0.fTexts.take ((i0 : Int)).toNat) (gt x0.fTexts (i0 : Int))))) then (some 7) else none)))) (fun r => r) (onO ((List.range' 0 (x0.fSigns.length - 0)).findSome? (fun (i3 : Nat) => (bif ((!(spec_l1Key_v ((gt x0.fSigns (i3 : Int)).fKey))) || (!(bif (!(!(spec_l1Key_v ((gt x0.fSigns (i3 : Int)).fKey)))) then (spec_l1In_v ((gt x0.fSigns (i3 : Int)).fId) 1 (x0.fTexts.length : Int)) else default))) then (some 3) else (bif (spec_l1Signed_v (x0.fSigns.take ((i3 : Int)).toNat) (gt x0.fSigns (i3 : Int))) then (some 7) else none)))) (fun r => r) 0)))
theorem spec_l1Fault_ev (x0 : Ledger) (h_x0 : smLedger x0) : Evt (fun k => spec_l1Fault.f k x0) (spec_l1Fault_v x0) :=
  (Evt.ifh (fun hc6 => (Evt.self _)) (fun hc6 => (Evt.loop (r' := fun r => r) (Evt.srch (L := (fun k i => spec_l1Fault.l0 x0 k i)) 0 x0.fTexts.length (by have := h_x0.1; first | (have := this.1; omega) | omega) (fun (i0 : Nat) => (bif ((decide (((gt x0.fTexts (i0 : Int)).size : Int) < 1)) || (decide (300 < ((gt x0.fTexts (i0 : Int)).size : Int)))) then (some 2) else (bif (decide (0 < (spec_l1At_v (x0.fTexts.take ((i0 : Int)).toNat) (gt x0.fTexts (i0 : Int))))) then (some 7) else none))) (fun i0 hs3 hi3 => by
  have hbn : x0.fTexts.length ≤ 9223372036854775807 := (by have := h_x0.1; first | (have := this.1; omega) | omega)
  simp only [spec_l1Fault.l0_s]
  exact Evt_t2 (int_lt hi3) (StE.chk (by first | exact idx_ok (by omega) | exact idx_ok (by have hq := len_eq (by assumption); omega) | exact idx_found (show (0 : Int) ≤ (i0 : Int) by simp_all) | exact cut_ok (by omega) | exact or_ok (idx_ok (by omega)) | (refine or1 (fun hz => pre_ok (by simp at hz; omega) (by omega) (by omega))) | exact pre_ok (by omega) (by omega) (by omega) | (simp_all [idxOk, cutOk, leB]; done) | (simp_all [idxOk, cutOk, leB]; omega) | (simp [idxOk, cutOk, leB] at *; omega) | (have hf0 := h_x0.1.1; have hf1 := h_x0.2.1; simp only [leB, decide_eq_true_eq, List.length_append, List.length_cons, List.length_nil]; omega)) (StE.chk (by first | exact idx_ok (by omega) | exact idx_ok (by have hq := len_eq (by assumption); omega) | exact idx_found (by simp_all) | exact cut_ok (by omega) | exact or_ok (idx_ok (by omega)) | (refine or1 (fun hz => pre_ok (by simp at hz; omega) (by omega) (by omega))) | exact pre_ok (by omega) (by omega) (by omega) | (simp_all [idxOk, cutOk, leB]; done) | (simp_all [idxOk, cutOk, leB]; omega) | (simp [idxOk, cutOk, leB] at *; omega) | (have hf0 := h_x0.1.1; have hf1 := h_x0.2.1; simp only [leB, decide_eq_true_eq, List.length_append, List.length_cons, List.length_nil]; omega)) (StE.ifh (fun hc2 => (StE.ret _)) (fun hc2 => (StE.chk (by first | exact idx_ok (by omega) | exact idx_ok (by have hq := len_eq (by assumption); omega) | exact idx_found (by simp_all) | exact cut_ok (by omega) | exact or_ok (idx_ok (by omega)) | (refine or1 (fun hz => pre_ok (by simp at hz; omega) (by omega) (by omega))) | exact pre_ok (by omega) (by omega) (by omega) | (simp_all [idxOk, cutOk, leB]; done) | (simp_all [idxOk, cutOk, leB]; omega) | (simp [idxOk, cutOk, leB] at *; omega) | (have hf0 := h_x0.1.1; have hf1 := h_x0.2.1; simp only [leB, decide_eq_true_eq, List.length_append, List.length_cons, List.length_nil]; omega)) (StE.chk (by first | exact idx_ok (by omega) | exact idx_ok (by have hq := len_eq (by assumption); omega) | exact idx_found (show (0 : Int) ≤ (i0 : Int) by simp_all) | exact cut_ok (by omega) | exact or_ok (idx_ok (by omega)) | (refine or1 (fun hz => pre_ok (by simp at hz; omega) (by omega) (by omega))) | exact pre_ok (by omega) (by omega) (by omega) | (simp_all [idxOk, cutOk, leB]; done) | (simp_all [idxOk, cutOk, leB]; omega) | (simp [idxOk, cutOk, leB] at *; omega) | (have hf0 := h_x0.1.1; have hf1 := h_x0.2.1; simp only [leB, decide_eq_true_eq, List.length_append, List.length_cons, List.length_nil]; omega)) (StE.bind (spec_l1At_ev (x0.fTexts.take ((i0 : Int)).toNat) (gt x0.fTexts (i0 : Int)) ((Lm_take h_x0.1))) (StE.ifh (fun hc1 => (StE.ret _)) (fun hc1 => StE.next)))))))))) (fun j hj => by
  simp only [spec_l1Fault.l0_s]
  exact Evt.f (ge_lt hj) (Evt.self _))) (fun _ => rfl) (Evt.loop (r' := fun r => r) (Evt.srch (L := (fun k i => spec_l1Fault.l1 x0 k i)) 0 x0.fSigns.length (by have := h_x0.2; first | (have := this.1; omega) | omega) (fun (i3 : Nat) => (bif ((!(spec_l1Key_v ((gt x0.fSigns (i3 : Int)).fKey))) || (!(bif (!(!(spec_l1Key_v ((gt x0.fSigns (i3 : Int)).fKey)))) then (spec_l1In_v ((gt x0.fSigns (i3 : Int)).fId) 1 (x0.fTexts.length : Int)) else default))) then (some 3) else (bif (spec_l1Signed_v (x0.fSigns.take ((i3 : Int)).toNat) (gt x0.fSigns (i3 : Int))) then (some 7) else none))) (fun i3 hs6 hi6 => by
  have hbn : x0.fSigns.length ≤ 9223372036854775807 := (by have := h_x0.2; first | (have := this.1; omega) | omega)
  simp only [spec_l1Fault.l1_s]
  exact Evt_t2 (int_lt hi6) (StE.chk (by first | exact idx_ok (by omega) | exact idx_ok (by have hq := len_eq (by assumption); omega) | exact idx_found (show (0 : Int) ≤ (i3 : Int) by simp_all) | exact cut_ok (by omega) | exact or_ok (idx_ok (by omega)) | (refine or1 (fun hz => pre_ok (by simp at hz; omega) (by omega) (by omega))) | exact pre_ok (by omega) (by omega) (by omega) | (simp_all [idxOk, cutOk, leB]; done) | (simp_all [idxOk, cutOk, leB]; omega) | (simp [idxOk, cutOk, leB] at *; omega) | (have hf0 := h_x0.1.1; have hf1 := h_x0.2.1; simp only [leB, decide_eq_true_eq, List.length_append, List.length_cons, List.length_nil]; omega)) (StE.bind (spec_l1Key_ev ((gt x0.fSigns (i3 : Int)).fKey)) (StE.chk (by first | exact idx_ok (by omega) | exact idx_ok (by have hq := len_eq (by assumption); omega) | exact idx_found (by simp_all) | exact cut_ok (by omega) | exact or_ok (idx_ok (by omega)) | (refine or1 (fun hz => pre_ok (by simp at hz; omega) (by omega) (by omega))) | exact pre_ok (by omega) (by omega) (by omega) | (simp_all [idxOk, cutOk, leB]; done) | (simp_all [idxOk, cutOk, leB]; omega) | (simp [idxOk, cutOk, leB] at *; omega) | (have hf0 := h_x0.1.1; have hf1 := h_x0.2.1; simp only [leB, decide_eq_true_eq, List.length_append, List.length_cons, List.length_nil]; omega)) (StE.bind (Evt.ifh (fun _ => (spec_l1In_ev ((gt x0.fSigns (i3 : Int)).fId) 1 (x0.fTexts.length : Int))) (fun _ => Evt.self _)) (StE.ifh (fun hc5 => (StE.ret _)) (fun hc5 => (StE.chk (by first | exact idx_ok (by omega) | exact idx_ok (by have hq := len_eq (by assumption); omega) | exact idx_found (by simp_all) | exact cut_ok (by omega) | exact or_ok (idx_ok (by omega)) | (refine or1 (fun hz => pre_ok (by simp at hz; omega) (by omega) (by omega))) | exact pre_ok (by omega) (by omega) (by omega) | (simp_all [idxOk, cutOk, leB]; done) | (simp_all [idxOk, cutOk, leB]; omega) | (simp [idxOk, cutOk, leB] at *; omega) | (have hf0 := h_x0.1.1; have hf1 := h_x0.2.1; simp only [leB, decide_eq_true_eq, List.length_append, List.length_cons, List.length_nil]; omega)) (StE.chk (by first | exact idx_ok (by omega) | exact idx_ok (by have hq := len_eq (by assumption); omega) | exact idx_found (show (0 : Int) ≤ (i3 : Int) by simp_all) | exact cut_ok (by omega) | exact or_ok (idx_ok (by omega)) | (refine or1 (fun hz => pre_ok (by simp at hz; omega) (by omega) (by omega))) | exact pre_ok (by omega) (by omega) (by omega) | (simp_all [idxOk, cutOk, leB]; done) | (simp_all [idxOk, cutOk, leB]; omega) | (simp [idxOk, cutOk, leB] at *; omega) | (have hf0 := h_x0.1.1; have hf1 := h_x0.2.1; simp only [leB, decide_eq_true_eq, List.length_append, List.length_cons, List.length_nil]; omega)) (StE.bind (spec_l1Signed_ev (x0.fSigns.take ((i3 : Int)).toNat) (gt x0.fSigns (i3 : Int)) ((Lm_take h_x0.2))) (StE.ifh (fun hc4 => (StE.ret _)) (fun hc4 => StE.next)))))))))))) (fun j hj => by
  simp only [spec_l1Fault.l1_s]
  exact Evt.f (ge_lt hj) (Evt.self _))) (fun _ => rfl) (Evt.self _)))))
def spec_l1Copy_v (x0 : Ledger) : Ledger := (⟨([] : List ByteArray) ++ x0.fTexts, ([] : List Sign) ++ x0.fSigns⟩ : Ledger)
theorem spec_l1Copy_ev (x0 : Ledger) (h_x0 : smLedger x0) : Evt (fun k => spec_l1Copy.f k x0) (spec_l1Copy_v x0) :=
  (Evt.chk (by first | exact idx_ok (by omega) | exact idx_ok (by have hq := len_eq (by assumption); omega) | exact idx_found (by simp_all) | exact cut_ok (by omega) | exact or_ok (idx_ok (by omega)) | (refine or1 (fun hz => pre_ok (by simp at hz; omega) (by omega) (by omega))) | exact pre_ok (by omega) (by omega) (by omega) | (simp_all [idxOk, cutOk, leB]; done) | (simp_all [idxOk, cutOk, leB]; omega) | (simp [idxOk, cutOk, leB] at *; omega) | (have hf0 := h_x0.1.1; have hf1 := h_x0.2.1; simp only [leB, decide_eq_true_eq, List.length_append, List.length_cons, List.length_nil]; omega)) (Evt.chk (by first | exact idx_ok (by omega) | exact idx_ok (by have hq := len_eq (by assumption); omega) | exact idx_found (by simp_all) | exact cut_ok (by omega) | exact or_ok (idx_ok (by omega)) | (refine or1 (fun hz => pre_ok (by simp at hz; omega) (by omega) (by omega))) | exact pre_ok (by omega) (by omega) (by omega) | (simp_all [idxOk, cutOk, leB]; done) | (simp_all [idxOk, cutOk, leB]; omega) | (simp [idxOk, cutOk, leB] at *; omega) | (have hf0 := h_x0.1.1; have hf1 := h_x0.2.1; simp only [leB, decide_eq_true_eq, List.length_append, List.length_cons, List.length_nil]; omega)) (Evt.self _)))
def spec_NoteText_v (x0 : Ledger) (x1 : ByteArray) : LedgerResult := (bif ((spec_l1Fault_v x0) != 0) then (⟨(spec_l1Fault_v x0), 0, (⟨([] : List ByteArray), ([] : List Sign)⟩ : Ledger)⟩ : LedgerResult) else (bif ((decide ((x1.size : Int) < 1)) || (decide (300 < (x1.size : Int)))) then (⟨2, 0, (⟨([] : List ByteArray), ([] : List Sign)⟩ : Ledger)⟩ : LedgerResult) else (bif (decide (0 < (spec_l1At_v x0.fTexts x1))) then (⟨0, (spec_l1At_v x0.fTexts x1), (spec_l1Copy_v x0)⟩ : LedgerResult) else (bif (decide (60 ≤ (x0.fTexts.length : Int))) then (⟨2, 0, (⟨([] : List ByteArray), ([] : List Sign)⟩ : Ledger)⟩ : LedgerResult) else (⟨0, (((spec_l1Copy_v x0).fTexts ++ ([x1] : List ByteArray)).length : Int), (⟨(spec_l1Copy_v x0).fTexts ++ ([x1] : List ByteArray), (spec_l1Copy_v x0).fSigns⟩ : Ledger)⟩ : LedgerResult)))))
theorem spec_NoteText_ev (x0 : Ledger) (x1 : ByteArray) (h_x0 : smLedger x0) : Evt (fun k => spec_NoteText.f k x0 x1) (spec_NoteText_v x0 x1) :=
  (Evt.bind (spec_l1Fault_ev x0 (h_x0)) (Evt.ifh (fun hc3 => (Evt.self _)) (fun hc3 => (Evt.ifh (fun hc2 => (Evt.self _)) (fun hc2 => (Evt.bind (spec_l1Copy_ev x0 (h_x0)) (Evt.bind (spec_l1At_ev x0.fTexts x1 (h_x0.1)) (Evt.ifh (fun hc1 => (Evt.self _)) (fun hc1 => (Evt.ifh (fun hc0 => (Evt.self _)) (fun hc0 => (Evt.chk (by first | exact idx_ok (by omega) | exact idx_ok (by have hq := len_eq (by assumption); omega) | exact idx_found (by simp_all) | exact cut_ok (by omega) | exact or_ok (idx_ok (by omega)) | (refine or1 (fun hz => pre_ok (by simp at hz; omega) (by omega) (by omega))) | exact pre_ok (by omega) (by omega) (by omega) | (simp_all [idxOk, cutOk, leB]; done) | (simp_all [idxOk, cutOk, leB]; omega) | (simp [idxOk, cutOk, leB] at *; omega) | (refine decide_eq_true ?_; have h1 := h_x0.1.1; simp only [spec_l1Copy_v, List.nil_append, List.length_cons, List.length_nil]; omega) | (have hf0 := h_x0.1.1; have hf1 := h_x0.2.1; simp only [leB, decide_eq_true_eq, List.length_append, List.length_cons, List.length_nil]; omega)) (Evt.self _)))))))))))))
def impl_within_v (x0 : Int) (x1 : Int) (x2 : Int) : Bool := ((decide (x1 ≤ x0)) && (decide (x0 ≤ x2)))
theorem impl_within_ev (x0 : Int) (x1 : Int) (x2 : Int)  : Evt (fun k => impl_within.f k x0 x1 x2) (impl_within_v x0 x1 x2) :=
  (Evt.self _)
def impl_isText_v (x0 : ByteArray) : Bool := (impl_within_v (x0.size : Int) 1 300)
theorem impl_isText_ev (x0 : ByteArray)  : Evt (fun k => impl_isText.f k x0) (impl_isText_v x0) :=
  (Evt.bind (impl_within_ev (x0.size : Int) 1 300) (Evt.self _))
def slices_Index_string_v (x0 : List ByteArray) (x1 : ByteArray) : Int := (onO ((List.range' 0 (x0.length - 0)).findSome? (fun (i0 : Nat) => (bif (sEq x1 (gt x0 (i0 : Int))) then (some (i0 : Int)) else none))) (fun r => r) (-1))
theorem slices_Index_string_ev (x0 : List ByteArray) (x1 : ByteArray) (h_x0 : (Lm tr) x0) : Evt (fun k => slices_Index_string.f k x0 x1) (slices_Index_string_v x0 x1) :=
  (Evt.loop (r' := fun r => r) (Evt.srch (L := (fun k i => slices_Index_string.l0 x0 x1 k i)) 0 x0.length (by have := h_x0; first | (have := this.1; omega) | omega) (fun (i0 : Nat) => (bif (sEq x1 (gt x0 (i0 : Int))) then (some (i0 : Int)) else none)) (fun i0 hs2 hi2 => by
  have hbn : x0.length ≤ 9223372036854775807 := (by have := h_x0; first | (have := this.1; omega) | omega)
  simp only [slices_Index_string.l0_s]
  exact Evt_t2 (int_lt hi2) (StE.chk (by first | exact idx_ok (by omega) | exact idx_ok (by have hq := len_eq (by assumption); omega) | exact idx_found (show (0 : Int) ≤ (i0 : Int) by simp_all) | exact cut_ok (by omega) | exact or_ok (idx_ok (by omega)) | (refine or1 (fun hz => pre_ok (by simp at hz; omega) (by omega) (by omega))) | exact pre_ok (by omega) (by omega) (by omega) | (simp_all [idxOk, cutOk, leB]; done) | (simp_all [idxOk, cutOk, leB]; omega) | (simp [idxOk, cutOk, leB] at *; omega) | (have hf0 := h_x0.1; simp only [leB, decide_eq_true_eq, List.length_append, List.length_cons, List.length_nil]; omega)) (StE.ifh (fun hc1 => (StE.ret _)) (fun hc1 => StE.next)))) (fun j hj => by
  simp only [slices_Index_string.l0_s]
  exact Evt.f (ge_lt hj) (Evt.self _))) (fun _ => rfl) (Evt.self _))
def slices_Contains_string_v (x0 : List ByteArray) (x1 : ByteArray) : Bool := (decide (0 ≤ (slices_Index_string_v x0 x1)))
theorem slices_Contains_string_ev (x0 : List ByteArray) (x1 : ByteArray) (h_x0 : (Lm tr) x0) : Evt (fun k => slices_Contains_string.f k x0 x1) (slices_Contains_string_v x0 x1) :=
  (Evt.bind (slices_Index_string_ev x0 x1 (h_x0)) (Evt.self _))
theorem slices_Contains_string_any (x0 : List ByteArray) (x1 : ByteArray) : slices_Contains_string_v x0 x1 = (List.range' 0 (x0.length - 0)).any (fun (i0 : Nat) => (sEq x1 (gt x0 (i0 : Int)))) := idx_any _ _
def impl_isKey_v (x0 : Int) : Bool := (impl_within_v x0 1 999)
theorem impl_isKey_ev (x0 : Int)  : Evt (fun k => impl_isKey.f k x0) (impl_isKey_v x0) :=
  (Evt.bind (impl_within_ev x0 1 999) (Evt.self _))
def slices_Index_impl_Sign_v (x0 : List Sign) (x1 : Sign) : Int := (onO ((List.range' 0 (x0.length - 0)).findSome? (fun (i0 : Nat) => (bif ((x1.fKey == ((gt x0 (i0 : Int)).fKey)) && (x1.fId == ((gt x0 (i0 : Int)).fId))) then (some (i0 : Int)) else none))) (fun r => r) (-1))
theorem slices_Index_impl_Sign_ev (x0 : List Sign) (x1 : Sign) (h_x0 : (Lm smSign) x0) : Evt (fun k => slices_Index_impl_Sign.f k x0 x1) (slices_Index_impl_Sign_v x0 x1) :=
  (Evt.loop (r' := fun r => r) (Evt.srch (L := (fun k i => slices_Index_impl_Sign.l0 x0 x1 k i)) 0 x0.length (by have := h_x0; first | (have := this.1; omega) | omega) (fun (i0 : Nat) => (bif ((x1.fKey == ((gt x0 (i0 : Int)).fKey)) && (x1.fId == ((gt x0 (i0 : Int)).fId))) then (some (i0 : Int)) else none)) (fun i0 hs2 hi2 => by
  have hbn : x0.length ≤ 9223372036854775807 := (by have := h_x0; first | (have := this.1; omega) | omega)
  simp only [slices_Index_impl_Sign.l0_s]
  exact Evt_t2 (int_lt hi2) (StE.chk (by first | exact idx_ok (by omega) | exact idx_ok (by have hq := len_eq (by assumption); omega) | exact idx_found (show (0 : Int) ≤ (i0 : Int) by simp_all) | exact cut_ok (by omega) | exact or_ok (idx_ok (by omega)) | (refine or1 (fun hz => pre_ok (by simp at hz; omega) (by omega) (by omega))) | exact pre_ok (by omega) (by omega) (by omega) | (simp_all [idxOk, cutOk, leB]; done) | (simp_all [idxOk, cutOk, leB]; omega) | (simp [idxOk, cutOk, leB] at *; omega) | (have hf0 := h_x0.1; simp only [leB, decide_eq_true_eq, List.length_append, List.length_cons, List.length_nil]; omega)) (StE.ifh (fun hc1 => (StE.ret _)) (fun hc1 => StE.next)))) (fun j hj => by
  simp only [slices_Index_impl_Sign.l0_s]
  exact Evt.f (ge_lt hj) (Evt.self _))) (fun _ => rfl) (Evt.self _))
def slices_Contains_impl_Sign_v (x0 : List Sign) (x1 : Sign) : Bool := (decide (0 ≤ (slices_Index_impl_Sign_v x0 x1)))
theorem slices_Contains_impl_Sign_ev (x0 : List Sign) (x1 : Sign) (h_x0 : (Lm smSign) x0) : Evt (fun k => slices_Contains_impl_Sign.f k x0 x1) (slices_Contains_impl_Sign_v x0 x1) :=
  (Evt.bind (slices_Index_impl_Sign_ev x0 x1 (h_x0)) (Evt.self _))
theorem slices_Contains_impl_Sign_any (x0 : List Sign) (x1 : Sign) : slices_Contains_impl_Sign_v x0 x1 = (List.range' 0 (x0.length - 0)).any (fun (i0 : Nat) => ((x1.fKey == ((gt x0 (i0 : Int)).fKey)) && (x1.fId == ((gt x0 (i0 : Int)).fId)))) := idx_any _ _
def impl_LedgerFault_v (x0 : Ledger) : Int := (bif ((decide (60 < (x0.fTexts.length : Int))) || (decide (120 < (x0.fSigns.length : Int)))) then 2 else (onO ((List.range' 0 (x0.fTexts.length - 0)).findSome? (fun (i0 : Nat) => (bif !(impl_isText_v (gt x0.fTexts (i0 : Int))) then (some 2) else (bif (slices_Contains_string_v (x0.fTexts.take ((i0 : Int)).toNat) (gt x0.fTexts (i0 : Int))) then (some 7) else none)))) (fun r => r) (onO ((List.range' 0 (x0.fSigns.length - 0)).findSome? (fun (i3 : Nat) => (bif ((!(impl_isKey_v ((gt x0.fSigns (i3 : Int)).fKey))) || (!(bif (!(!(impl_isKey_v ((gt x0.fSigns (i3 : Int)).fKey)))) then (impl_within_v ((gt x0.fSigns (i3 : Int)).fId) 1 (x0.fTexts.length : Int)) else default))) then (some 3) else (bif (slices_Contains_impl_Sign_v (x0.fSigns.take ((i3 : Int)).toNat) (gt x0.fSigns (i3 : Int))) then (some 7) else none)))) (fun r => r) 0)))
theorem impl_LedgerFault_ev (x0 : Ledger) (h_x0 : smLedger x0) : Evt (fun k => impl_LedgerFault.f k x0) (impl_LedgerFault_v x0) :=
  (Evt.ifh (fun hc6 => (Evt.self _)) (fun hc6 => (Evt.loop (r' := fun r => r) (Evt.srch (L := (fun k i => impl_LedgerFault.l0 x0 k i)) 0 x0.fTexts.length (by have := h_x0.1; first | (have := this.1; omega) | omega) (fun (i0 : Nat) => (bif !(impl_isText_v (gt x0.fTexts (i0 : Int))) then (some 2) else (bif (slices_Contains_string_v (x0.fTexts.take ((i0 : Int)).toNat) (gt x0.fTexts (i0 : Int))) then (some 7) else none))) (fun i0 hs3 hi3 => by
  have hbn : x0.fTexts.length ≤ 9223372036854775807 := (by have := h_x0.1; first | (have := this.1; omega) | omega)
  simp only [impl_LedgerFault.l0_s]
  exact Evt_t2 (int_lt hi3) (StE.chk (by first | exact idx_ok (by omega) | exact idx_ok (by have hq := len_eq (by assumption); omega) | exact idx_found (show (0 : Int) ≤ (i0 : Int) by simp_all) | exact cut_ok (by omega) | exact or_ok (idx_ok (by omega)) | (refine or1 (fun hz => pre_ok (by simp at hz; omega) (by omega) (by omega))) | exact pre_ok (by omega) (by omega) (by omega) | (simp_all [idxOk, cutOk, leB]; done) | (simp_all [idxOk, cutOk, leB]; omega) | (simp [idxOk, cutOk, leB] at *; omega) | (have hf0 := h_x0.1.1; have hf1 := h_x0.2.1; simp only [leB, decide_eq_true_eq, List.length_append, List.length_cons, List.length_nil]; omega)) (StE.bind (impl_isText_ev (gt x0.fTexts (i0 : Int))) (StE.ifh (fun hc2 => (StE.ret _)) (fun hc2 => (StE.chk (by first | exact idx_ok (by omega) | exact idx_ok (by have hq := len_eq (by assumption); omega) | exact idx_found (by simp_all) | exact cut_ok (by omega) | exact or_ok (idx_ok (by omega)) | (refine or1 (fun hz => pre_ok (by simp at hz; omega) (by omega) (by omega))) | exact pre_ok (by omega) (by omega) (by omega) | (simp_all [idxOk, cutOk, leB]; done) | (simp_all [idxOk, cutOk, leB]; omega) | (simp [idxOk, cutOk, leB] at *; omega) | (have hf0 := h_x0.1.1; have hf1 := h_x0.2.1; simp only [leB, decide_eq_true_eq, List.length_append, List.length_cons, List.length_nil]; omega)) (StE.bind (slices_Contains_string_ev (x0.fTexts.take ((i0 : Int)).toNat) (gt x0.fTexts (i0 : Int)) ((Lm_take h_x0.1))) (StE.ifh (fun hc1 => (StE.ret _)) (fun hc1 => StE.next))))))))) (fun j hj => by
  simp only [impl_LedgerFault.l0_s]
  exact Evt.f (ge_lt hj) (Evt.self _))) (fun _ => rfl) (Evt.loop (r' := fun r => r) (Evt.srch (L := (fun k i => impl_LedgerFault.l1 x0 k i)) 0 x0.fSigns.length (by have := h_x0.2; first | (have := this.1; omega) | omega) (fun (i3 : Nat) => (bif ((!(impl_isKey_v ((gt x0.fSigns (i3 : Int)).fKey))) || (!(bif (!(!(impl_isKey_v ((gt x0.fSigns (i3 : Int)).fKey)))) then (impl_within_v ((gt x0.fSigns (i3 : Int)).fId) 1 (x0.fTexts.length : Int)) else default))) then (some 3) else (bif (slices_Contains_impl_Sign_v (x0.fSigns.take ((i3 : Int)).toNat) (gt x0.fSigns (i3 : Int))) then (some 7) else none))) (fun i3 hs6 hi6 => by
  have hbn : x0.fSigns.length ≤ 9223372036854775807 := (by have := h_x0.2; first | (have := this.1; omega) | omega)
  simp only [impl_LedgerFault.l1_s]
  exact Evt_t2 (int_lt hi6) (StE.chk (by first | exact idx_ok (by omega) | exact idx_ok (by have hq := len_eq (by assumption); omega) | exact idx_found (show (0 : Int) ≤ (i3 : Int) by simp_all) | exact cut_ok (by omega) | exact or_ok (idx_ok (by omega)) | (refine or1 (fun hz => pre_ok (by simp at hz; omega) (by omega) (by omega))) | exact pre_ok (by omega) (by omega) (by omega) | (simp_all [idxOk, cutOk, leB]; done) | (simp_all [idxOk, cutOk, leB]; omega) | (simp [idxOk, cutOk, leB] at *; omega) | (have hf0 := h_x0.1.1; have hf1 := h_x0.2.1; simp only [leB, decide_eq_true_eq, List.length_append, List.length_cons, List.length_nil]; omega)) (StE.bind (impl_isKey_ev ((gt x0.fSigns (i3 : Int)).fKey)) (StE.bind (Evt.ifh (fun _ => (impl_within_ev ((gt x0.fSigns (i3 : Int)).fId) 1 (x0.fTexts.length : Int))) (fun _ => Evt.self _)) (StE.ifh (fun hc5 => (StE.ret _)) (fun hc5 => (StE.chk (by first | exact idx_ok (by omega) | exact idx_ok (by have hq := len_eq (by assumption); omega) | exact idx_found (by simp_all) | exact cut_ok (by omega) | exact or_ok (idx_ok (by omega)) | (refine or1 (fun hz => pre_ok (by simp at hz; omega) (by omega) (by omega))) | exact pre_ok (by omega) (by omega) (by omega) | (simp_all [idxOk, cutOk, leB]; done) | (simp_all [idxOk, cutOk, leB]; omega) | (simp [idxOk, cutOk, leB] at *; omega) | (have hf0 := h_x0.1.1; have hf1 := h_x0.2.1; simp only [leB, decide_eq_true_eq, List.length_append, List.length_cons, List.length_nil]; omega)) (StE.bind (slices_Contains_impl_Sign_ev (x0.fSigns.take ((i3 : Int)).toNat) (gt x0.fSigns (i3 : Int)) ((Lm_take h_x0.2))) (StE.ifh (fun hc4 => (StE.ret _)) (fun hc4 => StE.next)))))))))) (fun j hj => by
  simp only [impl_LedgerFault.l1_s]
  exact Evt.f (ge_lt hj) (Evt.self _))) (fun _ => rfl) (Evt.self _)))))
def impl_Ledger_idOf_v (x0 : Ledger) (x1 : ByteArray) : Int := (wrap64 ((slices_Index_string_v x0.fTexts x1) + 1))
theorem impl_Ledger_idOf_ev (x0 : Ledger) (x1 : ByteArray) (h_x0 : smLedger x0) : Evt (fun k => impl_Ledger_idOf.f k x0 x1) (impl_Ledger_idOf_v x0 x1) :=
  (Evt.bind (slices_Index_string_ev x0.fTexts x1 (h_x0.1)) (Evt.self _))
def slices_Clone_string_v (x0 : List ByteArray) : (List ByteArray) := (([] : List ByteArray) ++ x0)
theorem slices_Clone_string_ev (x0 : List ByteArray) (h_x0 : (Lm tr) x0) : Evt (fun k => slices_Clone_string.f k x0) (slices_Clone_string_v x0) :=
  (Evt.chk (by first | exact idx_ok (by omega) | exact idx_ok (by have hq := len_eq (by assumption); omega) | exact idx_found (by simp_all) | exact cut_ok (by omega) | exact or_ok (idx_ok (by omega)) | (refine or1 (fun hz => pre_ok (by simp at hz; omega) (by omega) (by omega))) | exact pre_ok (by omega) (by omega) (by omega) | (simp_all [idxOk, cutOk, leB]; done) | (simp_all [idxOk, cutOk, leB]; omega) | (simp [idxOk, cutOk, leB] at *; omega) | (have hf0 := h_x0.1; simp only [leB, decide_eq_true_eq, List.length_append, List.length_cons, List.length_nil]; omega)) (Evt.self _))
def slices_Clone_impl_Sign_v (x0 : List Sign) : (List Sign) := (([] : List Sign) ++ x0)
theorem slices_Clone_impl_Sign_ev (x0 : List Sign) (h_x0 : (Lm smSign) x0) : Evt (fun k => slices_Clone_impl_Sign.f k x0) (slices_Clone_impl_Sign_v x0) :=
  (Evt.chk (by first | exact idx_ok (by omega) | exact idx_ok (by have hq := len_eq (by assumption); omega) | exact idx_found (by simp_all) | exact cut_ok (by omega) | exact or_ok (idx_ok (by omega)) | (refine or1 (fun hz => pre_ok (by simp at hz; omega) (by omega) (by omega))) | exact pre_ok (by omega) (by omega) (by omega) | (simp_all [idxOk, cutOk, leB]; done) | (simp_all [idxOk, cutOk, leB]; omega) | (simp [idxOk, cutOk, leB] at *; omega) | (have hf0 := h_x0.1; simp only [leB, decide_eq_true_eq, List.length_append, List.length_cons, List.length_nil]; omega)) (Evt.self _))
def impl_ownLedger_v (x0 : Ledger) : Ledger := (⟨(slices_Clone_string_v x0.fTexts), (slices_Clone_impl_Sign_v x0.fSigns)⟩ : Ledger)
theorem impl_ownLedger_ev (x0 : Ledger) (h_x0 : smLedger x0) : Evt (fun k => impl_ownLedger.f k x0) (impl_ownLedger_v x0) :=
  (Evt.bind (slices_Clone_string_ev x0.fTexts (h_x0.1)) (Evt.bind (slices_Clone_impl_Sign_ev x0.fSigns (h_x0.2)) (Evt.self _)))
def impl_NoteText_v (x0 : Ledger) (x1 : ByteArray) : LedgerResult := (bif ((impl_LedgerFault_v x0) != 0) then (⟨(impl_LedgerFault_v x0), 0, (⟨([] : List ByteArray), ([] : List Sign)⟩ : Ledger)⟩ : LedgerResult) else (bif !(impl_isText_v x1) then (⟨2, 0, (⟨([] : List ByteArray), ([] : List Sign)⟩ : Ledger)⟩ : LedgerResult) else (bif (decide (0 < (impl_Ledger_idOf_v x0 x1))) then (⟨0, (impl_Ledger_idOf_v x0 x1), (impl_ownLedger_v x0)⟩ : LedgerResult) else (bif ((x0.fTexts.length : Int) == 60) then (⟨2, 0, (⟨([] : List ByteArray), ([] : List Sign)⟩ : Ledger)⟩ : LedgerResult) else (⟨0, (((impl_ownLedger_v x0).fTexts ++ ([x1] : List ByteArray)).length : Int), (⟨(impl_ownLedger_v x0).fTexts ++ ([x1] : List ByteArray), (impl_ownLedger_v x0).fSigns⟩ : Ledger)⟩ : LedgerResult)))))
theorem impl_NoteText_ev (x0 : Ledger) (x1 : ByteArray) (h_x0 : smLedger x0) : Evt (fun k => impl_NoteText.f k x0 x1) (impl_NoteText_v x0 x1) :=
  (Evt.bind (impl_LedgerFault_ev x0 (h_x0)) (Evt.ifh (fun hc3 => (Evt.self _)) (fun hc3 => (Evt.bind (impl_Ledger_idOf_ev x0 x1 (h_x0)) (Evt.bind (impl_ownLedger_ev x0 (h_x0)) (Evt.bind (impl_isText_ev x1) (Evt.ifh (fun hc2 => (Evt.self _)) (fun hc2 => (Evt.ifh (fun hc1 => (Evt.self _)) (fun hc1 => (Evt.ifh (fun hc0 => (Evt.self _)) (fun hc0 => (Evt.chk (by first | exact idx_ok (by omega) | exact idx_ok (by have hq := len_eq (by assumption); omega) | exact idx_found (by simp_all) | exact cut_ok (by omega) | exact or_ok (idx_ok (by omega)) | (refine or1 (fun hz => pre_ok (by simp at hz; omega) (by omega) (by omega))) | exact pre_ok (by omega) (by omega) (by omega) | (simp_all [idxOk, cutOk, leB]; done) | (simp_all [idxOk, cutOk, leB]; omega) | (simp [idxOk, cutOk, leB] at *; omega) | (refine decide_eq_true ?_; have h1 := h_x0.1.1; simp only [impl_ownLedger_v, slices_Clone_string_v, List.nil_append, List.length_cons, List.length_nil]; omega) | (have hf0 := h_x0.1.1; have hf1 := h_x0.2.1; simp only [leB, decide_eq_true_eq, List.length_append, List.length_cons, List.length_nil]; omega)) (Evt.self _))))))))))))))
theorem eqStringS_ev (x : List ByteArray) (h : (Lm tr) x) : Evt (fun k => laws_eqStringS.f k x x) true := by
  have hn := h.1
  refine (Evt.eqr (L := fun k i => laws_eqStringS.l0 x x k i) (fun _ _ => true) x x (by omega) (fun i h1 h2 o ht hf => ?_) ?_).to (eqRows_refl (fun _ => rfl) x)
  · refine Evt.s ?_
    simp only [laws_eqStringS.l0_s]
    exact Evt.t (int_lt h1) (Evt.chk (idx_ok h1) (Evt.chk (idx_ok h2) (Evt.f (by simp [sEq_refl]) (ht rfl))))
  · refine Evt.s ?_
    simp only [laws_eqStringS.l0_s]
    exact Evt.f int_nlt (Evt.self _)
theorem eqSign_ev (x : Sign) (h : smSign x) : Evt (fun k => laws_eqSign.f k x x) true := Evt.f (by simp [sEq_refl]) (Evt.f (by simp [sEq_refl]) (Evt.self _))
theorem eqSignS_ev (x : List Sign) (h : (Lm smSign) x) : Evt (fun k => laws_eqSignS.f k x x) true := by
  have hn := h.1
  refine (Evt.eqr (L := fun k i => laws_eqSignS.l0 x x k i) (fun _ _ => true) x x (by omega) (fun i h1 h2 o ht hf => ?_) ?_).to (eqRows_refl (fun _ => rfl) x)
  · refine Evt.s ?_
    simp only [laws_eqSignS.l0_s]
    exact Evt.t (int_lt h1) (Evt.chk (idx_ok h1) (Evt.chk (idx_ok h2) (Evt.bind (eqSign_ev _ (h.2 _ (gt_mem h1))) (Evt.f rfl (ht rfl)))))
  · refine Evt.s ?_
    simp only [laws_eqSignS.l0_s]
    exact Evt.f int_nlt (Evt.self _)
theorem eqLedger_ev (x : Ledger) (h : smLedger x) : Evt (fun k => laws_eqLedger.f k x x) true := Evt.bind (eqStringS_ev _ h.1) (Evt.f rfl (Evt.bind (eqSignS_ev _ h.2) (Evt.f rfl (Evt.self _))))
theorem eqLedgerResult_ev (x : LedgerResult) (h : smLedgerResult x) : Evt (fun k => laws_eqLedgerResult.f k x x) true := Evt.f (by simp [sEq_refl]) (Evt.f (by simp [sEq_refl]) (Evt.bind (eqLedger_ev _ h.2.2) (Evt.f rfl (Evt.self _))))
theorem markText_loop : ∀ (m : Nat) (n : Int) (out : ByteArray), 0 ≤ n → n ≤ 4611686018427387904 → n < 10 ^ m → out.size + m ≤ 1000000 → ∃ s : ByteArray, s.size ≤ out.size + m ∧ Evt (fun k => laws_markText.l0 k n out) s
  | 0, n, out, h0, _, h1, _ => by
    have e : n = 0 := by
      have h2 : n < 1 := h1
      omega
    subst e
    refine ⟨out, by omega, Evt.s ?_⟩
    simp only [laws_markText.l0_s]
    exact Evt.f (by simp) (Evt.self _)
  | m + 1, n, out, h0, hb, h1, h2 => by
    by_cases hn : 0 < n
    · have e1 : IntKind.i64.wrap (Int.tdiv n 10) = n / 10 := i64_quo n 10 ⟨h0, by omega, by omega⟩
      have h3 : n / 10 < 10 ^ m := Int.ediv_lt_of_lt_mul (by omega) (by rw [← Int.pow_succ]; exact h1)
      obtain ⟨s, a1, a2⟩ := markText_loop m (n / 10) (strOfNums ([IntKind.u8.wrap (wrap64 (48 + (Int.tmod n (10 : Int))))] : List Int) ++ out) (by omega) (by omega) h3 (by rw [ByteArray.size_append, strOfNums_size]; simp; omega)
      rw [ByteArray.size_append, strOfNums_size] at a1
      simp only [List.length_cons, List.length_nil] at a1
      refine ⟨s, by omega, Evt.s ?_⟩
      simp only [laws_markText.l0_s]
      refine Evt.t (by simpa using hn) (Evt.chk rfl (Evt.chk ?_ (Evt.chk rfl ?_)))
      · rw [strOfNums_size]; simp [leB]; omega
      · rw [e1]; exact a2
    · refine ⟨out, by omega, Evt.s ?_⟩
      simp only [laws_markText.l0_s]
      exact Evt.f (by simpa using hn) (Evt.self _)
theorem markText_ex (n : Int) (h1 : 1 ≤ n) (h2 : n ≤ 4611686018427387904) : ∃ s, Evt (fun k => laws_markText.f k n) s := by
  obtain ⟨s, a1, a2⟩ := markText_loop 19 n (⟨#[]⟩ : ByteArray) (by omega) h2 (Int.lt_of_le_of_lt h2 (by decide)) (by decide)
  have e0 : (⟨#[]⟩ : ByteArray).size = 0 := rfl
  rw [e0] at a1
  have a3 : s.size ≤ 19 := by omega
  refine ⟨_, Evt.f (by simp; omega) (Evt.bind a2 (Evt.chk ?_ (Evt.self _)))⟩
  have e : (⟨#[109]⟩ : ByteArray).size = 1 := rfl
  rw [e]; simp [leB]; omega
theorem markStringS_mh (x : List ByteArray) (h : (Lm tr) x) (s : Int) (h1 : 1 ≤ s) (h2 : s + 1048576 ≤ 4611686018427387904) : ∃ y t, s ≤ t ∧ t ≤ s + 1048576 ∧ Evt (fun k => laws_markStringS.f k x s) (t, y) ∧ Evt (fun k => laws_heldStringS.f k y s) t := by
  have hn := h.1
  have hc : (x.length : Int) * 1 ≤ 1048576 := by omega
  obtain ⟨ys, t, a1, a2, a3, a4, a5⟩ := mark_held (fun k a s i => laws_markStringS.l0 k a s i) (fun a k s i => laws_heldStringS.l0 a k s i) True 1 (by omega) tr (fun acc s i hi hp h1 h2 => by
    obtain ⟨q, hq⟩ := markText_ex s h1 (by omega)
    have w0 : wrap64 (s + 1) = s + 1 := wrap64_in _ (by omega)
    refine ⟨q, s + 1, by omega, by omega, fun r hr => ?_, fun hB ys hi hy r hr => ?_⟩
    · simp only [laws_markStringS.l0_s, w0, Int.toNat_natCast]
      exact Evt.t (int_lt hi) (Evt.bind hq (Evt.chk (idx_ok hi) hr))
    · simp only [laws_heldStringS.l0_s, w0]
      exact Evt.t (int_lt hi) (Evt.chk (idx_ok hi) (Evt.bind hq (Evt.f (by rw [hy, sEq_refl]; rfl) hr)))) (fun acc s => by
    simp only [laws_markStringS.l0_s]
    exact Evt.f int_nlt (Evt.self _)) (fun _ ys s => by
    simp only [laws_heldStringS.l0_s]
    exact Evt.f int_nlt (Evt.self _)) x (by omega) h.2 s h1 (by omega)
  exact ⟨ys, t, a2, by omega, Evt.bind a4 (Evt.self _), Evt.bind (a5 trivial) (Evt.self _)⟩
theorem markSignS_mh (x : List Sign) (h : (Lm smSign) x) (s : Int) (h1 : 1 ≤ s) (h2 : s + 2097152 ≤ 4611686018427387904) : ∃ y t, s ≤ t ∧ t ≤ s + 2097152 ∧ Evt (fun k => laws_markSignS.f k x s) (t, y) ∧ Evt (fun k => laws_heldSignS.f k y s) t := by
  have hn := h.1
  have hc : (x.length : Int) * 2 ≤ 2097152 := by omega
  obtain ⟨ys, t, a1, a2, a3, a4, a5⟩ := mark_held (fun k a s i => laws_markSignS.l0 k a s i) (fun a k s i => laws_heldSignS.l0 a k s i) True 2 (by omega) smSign (fun acc s i hi hp h1 h2 => by
    have w0 : wrap64 (s + 1) = s + 1 := wrap64_in _ (by omega)
    have w1 : wrap64 ((s + 1) + 1) = (s + 1) + 1 := wrap64_in _ (by omega)
    refine ⟨⟨s, (s + 1)⟩, ((s + 1) + 1), by omega, by omega, fun r hr => ?_, fun hB ys hi hy r hr => ?_⟩
    · simp only [laws_markSignS.l0_s, int_lt hi, cond_true, idx_ok hi, chkT, Int.toNat_natCast, List.length_set, gt_set hi, List.set_set, w0, w1]
      exact hr
    · simp only [laws_heldSignS.l0_s, int_lt hi, cond_true, idx_ok hi, chkT, hy, bne_self_eq_false, cond_false, w0, w1]
      exact hr) (fun acc s => by
    simp only [laws_markSignS.l0_s]
    exact Evt.f int_nlt (Evt.self _)) (fun _ ys s => by
    simp only [laws_heldSignS.l0_s]
    exact Evt.f int_nlt (Evt.self _)) x (by omega) h.2 s h1 (by omega)
  exact ⟨ys, t, a2, by omega, Evt.bind a4 (Evt.self _), Evt.bind (a5 trivial) (Evt.self _)⟩
theorem markLedger_mh (x : Ledger) (h : smLedger x) (s : Int) (h1 : 1 ≤ s) (h2 : s + 3145728 ≤ 4611686018427387904) : ∃ y0_0 y1_0 t, s ≤ t ∧ t ≤ s + 3145728 ∧ Evt (fun k => laws_markLedger.f k x s) (t, y0_0, y1_0) ∧ Evt (fun k => laws_heldLedger.f k (⟨y0_0, y1_0⟩ : Ledger) s) t := by
  obtain ⟨y0_0, t0, l0, u0, e0, g0⟩ := markStringS_mh x.fTexts h.1 s (by omega) (by omega)
  obtain ⟨y1_0, t1, l1, u1, e1, g1⟩ := markSignS_mh x.fSigns h.2 t0 (by omega) (by omega)
  exact ⟨y0_0, y1_0, t1, by omega, by omega, (Evt.bind e0 (Evt.bind e1 (Evt.self _))), (Evt.bind g0 (Evt.f (by simp; omega) (Evt.bind g1 (Evt.f (by simp; omega) (Evt.self _)))))⟩
theorem markLedgerResult_mh (x : LedgerResult) (h : smLedgerResult x) (s : Int) (h1 : 1 ≤ s) (h2 : s + 3145730 ≤ 4611686018427387904) : ∃ y0_0 y0_1 t, s ≤ t ∧ t ≤ s + 3145730 ∧ Evt (fun k => laws_markLedgerResult.f k x s) (t, y0_0, y0_1) ∧ Evt (fun k => laws_heldLedgerResult.f k (⟨x.fCode, x.fId, ⟨y0_0, y0_1⟩⟩ : LedgerResult) s) t := by
  obtain ⟨y0_0, y0_1, t0, l0, u0, e0, g0⟩ := markLedger_mh x.fLedger h.2.2 s (by omega) (by omega)
  exact ⟨y0_0, y0_1, t0, by omega, by omega, (Evt.bind e0 (Evt.self _)), (Evt.bind g0 (Evt.f (by simp; omega) (Evt.self _)))⟩
theorem contains_string (xs : List ByteArray) (x : ByteArray) (h : xs.length ≤ 1048576) : decide (0 < spec_l1At_v xs x) = slices_Contains_string_v xs x := by
  have e : (fun i : Nat => sEq x (gt xs (i : Int))) = fun i : Nat => sEq (gt xs (i : Int)) x := by funext i; exact sEq_comm _ _
  rw [slices_Contains_string_any, e]
  exact at_any (List.range' 0 (xs.length - 0)) (fun i : Nat => sEq (gt xs (i : Int)) x) fun i hi => by have := in_range hi; omega
theorem contains_sign (xs : List Sign) (x : Sign) : slices_Contains_impl_Sign_v xs x = spec_l1Signed_v xs x := by
  have e : (fun i : Nat => (x.fKey == (gt xs (i : Int)).fKey) && (x.fId == (gt xs (i : Int)).fId)) = fun i : Nat => ((gt xs (i : Int)).fKey == x.fKey) && ((gt xs (i : Int)).fId == x.fId) := by funext i; rw [BEq.comm (a := x.fKey), BEq.comm (a := x.fId)]
  rw [slices_Contains_impl_Sign_any, e]; simp only [spec_l1Signed_v, found_any, bifb]
theorem ledgerFault_same (x0 : Ledger) (h0 : smLedger x0) : impl_LedgerFault_v x0 = spec_l1Fault_v x0 := by
  have hT := h0.1.1
  have e1 : ∀ (n : Nat) (x : ByteArray), decide (0 < spec_l1At_v (x0.fTexts.take n) x) = slices_Contains_string_v (x0.fTexts.take n) x := fun n x => contains_string _ _ (by rw [List.length_take]; omega)
  simp only [impl_LedgerFault_v, spec_l1Fault_v, e1, contains_sign, rng1, impl_isText_v, impl_within_v, impl_isKey_v, spec_l1Key_v, spec_l1In_v]
theorem idx_at0 (f : Int → Int) (h0 : f (-1 + 1) = 0) (l : List Nat) (p : Nat → Bool) : f ((onO (l.findSome? fun i => bif p i then some (i : Int) else none) (fun r => r) (-1)) + 1) = onO (l.findSome? fun i => bif p i then some (f ((i : Int) + 1)) else none) (fun r => r) 0 := by
  induction l with
  | nil => exact h0
  | cons i l ih =>
    rw [List.findSome?_cons, List.findSome?_cons]
    cases p i
    · exact ih
    · rfl
theorem idOf_same (x0 : Ledger) (x1 : ByteArray) : impl_Ledger_idOf_v x0 x1 = spec_l1At_v x0.fTexts x1 := by
  have e : (fun i : Nat => sEq x1 (gt x0.fTexts (i : Int))) = fun i : Nat => sEq (gt x0.fTexts (i : Int)) x1 := by funext i; exact sEq_comm _ _
  have e2 := idx_at0 wrap64 (wrap64_in 0 (by omega)) (List.range' 0 (x0.fTexts.length - 0)) (fun i : Nat => sEq x1 (gt x0.fTexts (i : Int)))
  refine Eq.trans e2 ?_
  simp only [spec_l1At_v, sEq_comm x1]
theorem few_texts (x0 : Ledger) (h : spec_l1Fault_v x0 = 0) : x0.fTexts.length ≤ 60 := by
  unfold spec_l1Fault_v at h
  cases hc : decide (60 < (x0.fTexts.length : Int))
  · simp at hc; omega
  · rw [hc] at h; exact absurd (show (2 : Int) = 0 from h) (by decide)
theorem smr_FnExactNoteText (x0 : Ledger) (h0 : smLedger x0) (o0 : okLedger x0) (x1 : ByteArray) (o1 : sOk x1) : smLedgerResult (spec_NoteText_v x0 x1) := by
  have hl : ∀ (a b : Int), smLedgerResult ⟨a, b, ⟨([] : List ByteArray), ([] : List Sign)⟩⟩ := fun a b => ⟨trivial, trivial, ⟨by simp, fun x hx => by cases hx⟩, ⟨by simp, fun x hx => by cases hx⟩⟩
  have hc : spec_l1Copy_v x0 = x0 := by simp [spec_l1Copy_v]
  unfold spec_NoteText_v
  rw [hc]
  cases hf : (spec_l1Fault_v x0) != 0
  · have h60 := few_texts x0 (by simpa using hf)
    cases ((decide ((x1.size : Int) < 1)) || (decide (300 < (x1.size : Int))))
    · cases decide (0 < (spec_l1At_v x0.fTexts x1))
      · cases decide (60 ≤ (x0.fTexts.length : Int))
        · exact ⟨trivial, trivial, ⟨by simp; omega, fun _ _ => trivial⟩, h0.2⟩
        · exact hl _ _
      · exact ⟨trivial, trivial, h0⟩
    · exact hl _ _
  · exact hl _ _
theorem same_FnExactNoteText (x0 : Ledger) (h0 : smLedger x0) (o0 : okLedger x0) (x1 : ByteArray) (o1 : sOk x1) : impl_NoteText_v x0 x1 = spec_NoteText_v x0 x1 := by
  have hc : spec_l1Copy_v x0 = x0 := by simp [spec_l1Copy_v]
  have ho : impl_ownLedger_v x0 = x0 := by simp [impl_ownLedger_v, slices_Clone_string_v, slices_Clone_impl_Sign_v]
  have ht : (!impl_isText_v x1) = ((decide ((x1.size : Int) < 1)) || (decide (300 < (x1.size : Int)))) := by
    simp only [impl_isText_v, impl_within_v]
    by_cases h1 : (x1.size : Int) < 1
    · have h2 : ¬ (1 ≤ (x1.size : Int)) := by omega
      simp [h1, h2]
    · have h2 : 1 ≤ (x1.size : Int) := by omega
      by_cases h3 : (300 : Int) < x1.size
      · have h4 : ¬ ((x1.size : Int) ≤ 300) := by omega
        simp [h1, h2, h3, h4]
      · have h4 : (x1.size : Int) ≤ 300 := by omega
        simp [h1, h2, h3, h4]
  unfold impl_NoteText_v spec_NoteText_v
  rw [ledgerFault_same x0 h0, idOf_same, hc, ho, ht]
  cases hf : (spec_l1Fault_v x0) != 0
  · have h60 := few_texts x0 (by simpa using hf)
    have e : ((x0.fTexts.length : Int) == 60) = decide (60 ≤ (x0.fTexts.length : Int)) := by
      rw [Bool.eq_iff_iff, beq_iff_eq, decide_eq_true_eq]; omega
    rw [e]
  · rfl
end Go.Proofs.Ytigojhglkilodaa.Zk
namespace Go.Proofs.Ytigojhglkilodaa.Pure
open Go Go.Proofs.Ytigojhglkilodaa.Zk
theorem FnExactNoteText (x0 : Zk.Ledger) (x1 : ByteArray) (o_x0 : okLedger x0) (o_x1 : sOk x1) : ∃ k, laws_FnExactNoteText.f k x0 x1 = some true := by
  refine Evt.get ?_
  refine Evt.cases (fun _ => Evt.self _) fun hz0 => ?_
  obtain ⟨t0, e0, l0, s0⟩ := szLedger_ev x0 o_x0 1048576 (by omega) (by omega)
  by_cases c0 : t0 < 0
  · exact Evt.bind e0 (Evt.t (by simpa using c0) (Evt.self _))
  refine Evt.bind e0 (Evt.f (by simpa using c0) ?_)
  have m0 := s0 (by omega)
  refine Evt.bind (toLedger_ev x0 (m0)) ?_
  refine Evt.bind (spec_NoteText_ev x0 x1 (m0)) ?_
  refine Evt.bind (toLedger_ev x0 (m0)) ?_
  refine Evt.bind ((impl_NoteText_ev x0 x1 (m0)).to (same_FnExactNoteText x0 (m0) o_x0 x1 o_x1)) ?_
  refine Evt.bind (eqLedgerResult_ev _ (smr_FnExactNoteText x0 (m0) o_x0 x1 o_x1)) (Evt.f rfl ?_)
  refine Evt.bind (toLedger_ev x0 (m0)) ?_
  refine Evt.bind (eqLedger_ev _ (m0)) (Evt.f rfl ?_)
  obtain ⟨y1_0, y1_1, t1, l1, u1, e1, g1⟩ := markLedger_mh x0 m0 1 (by omega) (by omega)
  refine Evt.bind e1 ?_
  dsimp only
  refine Evt.bind (Evt.t (by simp; omega) (eqLedgerResult_ev _ (smr_FnExactNoteText x0 (m0) o_x0 x1 o_x1))) (Evt.f (by simp; omega) ?_)
  obtain ⟨y2_0, y2_1, t2, l2, u2, e2, g2⟩ := markLedgerResult_mh (spec_NoteText_v x0 x1) (smr_FnExactNoteText x0 (m0) o_x0 x1 o_x1) 1 (by omega) (by omega)
  refine Evt.bind e2 ?_
  dsimp only
  refine Evt.bind g2 ?_
  refine Evt.f (by simp; try omega) ?_
  refine Evt.f (by simp; try omega) ?_
  refine Evt.bind (toLedger_ev x0 (m0)) ?_
  refine Evt.bind ((impl_NoteText_ev x0 x1 (m0)).to (same_FnExactNoteText x0 (m0) o_x0 x1 o_x1)) ?_
  refine Evt.bind (eqLedgerResult_ev _ (smr_FnExactNoteText x0 (m0) o_x0 x1 o_x1)) (Evt.f rfl ?_)
  refine Evt.bind g2 ?_
  refine Evt.f (by simp; try omega) ?_
  refine Evt.f (by simp; try omega) ?_
  exact Evt.self _
end Go.Proofs.Ytigojhglkilodaa.Pure
