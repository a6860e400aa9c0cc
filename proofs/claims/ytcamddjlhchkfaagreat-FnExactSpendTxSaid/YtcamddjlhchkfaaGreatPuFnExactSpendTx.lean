/- The plain law of FnExactSpendTx: what the program's function and the reference's compute is the same. No condition. -/
import Derived.Test.YtcamddjlhchkfaaGreatZkPure
import Derived.Test.YtcamddjlhchkfaaGreatSpendTxZkOpn
import Derived.Test.YtcamddjlhchkfaaGreatSpendTxZkF11
namespace Go.Proofs.YtcamddjlhchkfaaGreat.Zk
open Go Go.RowKit Go.IntWalk
set_option linter.unusedVariables false
set_option linter.unusedSimpArgs false

def szL (n : Nat) (l : Int) : Int := bif decide (wrap64 (l - n) < 0) then -1 else wrap64 (l - n)
theorem szL_ok {n : Nat} {l : Int} (h : decide (szL n l < 0) = false) (h0 : 0 ≤ l) (h1 : l ≤ 1048576) (hn : n ≤ maxLen) : (n : Int) ≤ l ∧ szL n l = l - n := by
  unfold szL at *
  have hn' : n ≤ 9223372036854775807 := by simpa [maxLen] using hn
  have e : wrap64 (l - n) = l - n := by unfold wrap64; omega
  rw [e] at h ⊢
  by_cases hc : l - (n : Int) < 0
  · rw [decide_eq_true hc] at h; cases h
  · rw [decide_eq_false hc]; exact ⟨by omega, rfl⟩
theorem szL_le {n : Nat} {l : Int} (h0 : 0 ≤ l) (h1 : l ≤ 1048576) (hn : n ≤ maxLen) : szL n l ≤ l := by
  unfold szL
  have hn' : n ≤ 9223372036854775807 := by simpa [maxLen] using hn
  have e : wrap64 (l - n) = l - n := by unfold wrap64; omega
  rw [e]
  by_cases hc : l - (n : Int) < 0
  · rw [decide_eq_true hc]; show (-1 : Int) ≤ l; omega
  · rw [decide_eq_false hc]; show l - (n : Int) ≤ l; omega
theorem nn {l : Int} (h : decide (l < 0) = false) : 0 ≤ l := by simpa using h
abbrev tr {α : Type} (x : α) : Prop := True
def Lm {α : Type} (sm : α → Prop) (xs : List α) : Prop := xs.length ≤ 1048576 ∧ ∀ x ∈ xs, sm x
theorem gt_mem {α : Type} [Inhabited α] {xs : List α} {i : Nat} (h : i < xs.length) : gt xs (i : Int) ∈ xs := by
  rw [gt_eq (i := (i : Int)) (by simpa using h)]
  exact List.getElem_mem _
/-- Sizes, added up. -/
theorem Evt.szl {α : Type} [Inhabited α] {L : Nat → Int → Int → Option (Int ⊕ Int)} {sm : α → Prop} (xs : List α) (hn : xs.length ≤ 9223372036854775807)
    (step : ∀ i, i < xs.length → ∀ left, 0 ≤ left → left ≤ 1048576 → ∃ t, t ≤ left ∧ (0 ≤ t → sm (gt xs (i : Int))) ∧ (t < 0 → Evt (fun k => L k left (i : Int)) (.inl (-1))) ∧ ∀ o, 0 ≤ t → Evt (fun k => L k t (wrap64 ((i : Int) + 1))) o → Evt (fun k => L k left (i : Int)) o)
    (done : ∀ left, Evt (fun k => L k left (xs.length : Int)) (.inr left)) (l : Int) (h0 : 0 ≤ l) (h1 : l ≤ 1048576) :
    ∃ o, Evt (fun k => L k l 0) o ∧ match o with | .inl r => r = -1 | .inr t => 0 ≤ t ∧ t ≤ l ∧ ∀ x ∈ xs, sm x := by
  have key : ∀ d i l, i + d = xs.length → 0 ≤ l → l ≤ 1048576 → ∃ o, Evt (fun k => L k l (i : Int)) o ∧ match o with | .inl r => r = -1 | .inr t => 0 ≤ t ∧ t ≤ l ∧ ∀ j, i ≤ j → j < xs.length → sm (gt xs (j : Int)) := by
    intro d
    induction d with
    | zero =>
      intro i l hi h0 h1
      have e : i = xs.length := by omega
      subst e
      exact ⟨_, done l, h0, by omega, fun j h2 h3 => by omega⟩
    | succ d ih =>
      intro i l hi h0 h1
      obtain ⟨t, a1, a2, a3, a4⟩ := step i (by omega) l h0 h1
      by_cases c : t < 0
      · exact ⟨_, a3 c, rfl⟩
      · obtain ⟨o, b1, b2⟩ := ih (i + 1) t (by omega) (by omega) (by omega)
        refine ⟨o, a4 o (by omega) (by rw [w64 (by omega : i < xs.length) hn]; exact b1), ?_⟩
        cases o with
        | inl r => exact b2
        | inr u =>
          refine ⟨b2.1, by have := b2.2.1; omega, fun j h2 h3 => ?_⟩
          by_cases e : j = i
          · subst e; exact a2 (by omega)
          · exact b2.2.2 j (by omega) h3
  obtain ⟨o, b1, b2⟩ := key xs.length 0 l (by omega) h0 h1
  refine ⟨o, b1, ?_⟩
  cases o with
  | inl r => exact b2
  | inr u =>
    refine ⟨b2.1, b2.2.1, fun x hx => ?_⟩
    obtain ⟨j, hj, e⟩ := List.getElem_of_mem hx
    have := b2.2.2 j (by omega) hj
    rw [gt_eq (i := (j : Int)) (by simpa using hj)] at this
    simpa [e] using this

theorem Evt_t2 {β : Type} {f g nxt : Nat → Option (β ⊕ Unit)} {c : Bool} {v : Option β} (hc : c = true) (h : StE f nxt v) : StE (fun n => bif c then f n else g n) nxt v := by subst hc; exact h
theorem Lm_take {α : Type} {sm : α → Prop} {xs : List α} {n : Nat} (h : Lm sm xs) : Lm sm (xs.take n) := ⟨by have := h.1; rw [List.length_take]; omega, fun x hx => h.2 x (List.mem_of_mem_take hx)⟩
theorem Lm_drop {α : Type} {sm : α → Prop} {xs : List α} {n : Nat} (h : Lm sm xs) : Lm sm (xs.drop n) := ⟨by have := h.1; rw [List.length_drop]; omega, fun x hx => h.2 x (List.mem_of_mem_drop hx)⟩
/-! searches, told by 'any' -/
theorem found_any {β γ : Type} (l : List Nat) (p : Nat → Bool) (a : β) (r : β → γ) (c : γ) : onO (l.findSome? fun i => bif p i then some a else none) r c = bif l.any p then r a else c := by
  induction l with
  | nil => rfl
  | cons i l ih =>
    rw [List.findSome?_cons, List.any_cons]
    cases p i
    · simpa using ih
    · rfl
theorem idx_any (l : List Nat) (p : Nat → Bool) : decide (0 ≤ onO (l.findSome? fun i => bif p i then some (i : Int) else none) (fun r => r) (-1)) = l.any p := by
  induction l with
  | nil => rfl
  | cons i l ih =>
    rw [List.findSome?_cons, List.any_cons]
    cases p i
    · simpa using ih
    · simp [onO]
theorem band1 {c d e : Bool} : (c && (bif c then d else e)) = (c && d) := by cases c <;> rfl
theorem bor1 {c d e : Bool} : (c || (bif !c then d else e)) = (c || d) := by cases c <;> rfl
theorem bnn1 {c d e : Bool} : ((!c) || (!(bif (!(!c)) then d else e))) = ((!c) || (!d)) := by cases c <;> rfl
theorem bnn2 {c d : Bool} : ((!c) || (!d)) = !(c && d) := by cases c <;> rfl
theorem bnn3 {c d e : Bool} : ((!c) || (!(bif !(!c) then d else e))) = !(c && d) := by cases c <;> rfl
theorem bn_n {c d e : Bool} : (!c || !(bif c then d else e)) = !(c && d) := by cases c <;> rfl
theorem rng1 {a lo hi : Int} : (decide (a < lo) || decide (hi < a)) = !(decide (lo ≤ a) && decide (a ≤ hi)) := by
  by_cases h1 : a < lo
  · have : ¬ lo ≤ a := by omega
    simp [h1, this]
  · have h2 : lo ≤ a := by omega
    by_cases h3 : hi < a
    · have : ¬ a ≤ hi := by omega
      simp [h1, h2, h3, this]
    · have : a ≤ hi := by omega
      simp [h1, h2, h3, this]
theorem at_any (l : List Nat) (p : Nat → Bool) (h : ∀ i ∈ l, i < 4611686018427387904) : decide (0 < onO (l.findSome? fun i => bif p i then some (wrap64 ((i : Int) + 1)) else none) (fun r => r) 0) = l.any p := by
  induction l with
  | nil => rfl
  | cons i l ih =>
    rw [List.findSome?_cons, List.any_cons]
    have hi := h i (by simp)
    have hl : ∀ j ∈ l, j < 4611686018427387904 := fun j hj => h j (List.mem_cons_of_mem _ hj)
    clear h
    cases p i
    · exact ih hl
    · have e : wrap64 ((i : Int) + 1) = (i : Int) + 1 := by unfold wrap64; omega
      rw [e]
      show decide (0 < (i : Int) + 1) = true
      exact decide_eq_true (by omega)
theorem fs_congr {β : Type} {l : List Nat} {f g : Nat → Option β} (h : ∀ i ∈ l, f i = g i) : l.findSome? f = l.findSome? g := by
  induction l with
  | nil => rfl
  | cons i l ih => rw [List.findSome?_cons, List.findSome?_cons, h i (by simp), ih fun j hj => h j (by simp [hj])]
theorem any_congr' {l : List Nat} {f g : Nat → Bool} (h : ∀ i ∈ l, f i = g i) : l.any f = l.any g := by
  induction l with
  | nil => rfl
  | cons i l ih => rw [List.any_cons, List.any_cons, h i (by simp), ih fun j hj => h j (by simp [hj])]
theorem in_range {i n : Nat} (h : i ∈ List.range' 0 (n - 0)) : i < n := by
  have := List.mem_range'_1.1 h
  omega
theorem gt_take {α : Type} [Inhabited α] {xs : List α} {n j : Nat} (h : j < n) : gt (xs.take n) (j : Int) = gt xs (j : Int) := by
  unfold gt
  have e : ((j : Int)).toNat = j := by simp
  rw [e, List.getD_eq_getElem?_getD, List.getD_eq_getElem?_getD, List.getElem?_take, if_pos h]
theorem any_take {α : Type} [Inhabited α] {xs : List α} {i : Nat} (h : i ≤ xs.length) (p : α → Bool) :
    (List.range' 0 ((xs.take i).length - 0)).any (fun j => p (gt (xs.take i) (j : Int))) = (List.range' 0 (i - 0)).any (fun j => p (gt xs (j : Int))) := by
  have e : (xs.take i).length = i := by rw [List.length_take]; omega
  rw [e]
  exact any_congr' fun j hj => by rw [gt_take (in_range hj)]
theorem sEq_comm (a b : ByteArray) : sEq a b = sEq b a := by unfold sEq; exact BEq.comm
theorem bifb {b : Bool} : (bif b then true else false) = b := by cases b <;> rfl
theorem idx_found {n : Nat} {p : Nat → Bool} (h : 0 ≤ onO ((List.range' 0 (n - 0)).findSome? fun i => bif p i then some (i : Int) else none) (fun r => r) (-1)) : idxOk (onO ((List.range' 0 (n - 0)).findSome? fun i => bif p i then some (i : Int) else none) (fun r => r) (-1)) n = true := by
  have key : ∀ l : List Nat, (∀ i ∈ l, i < n) → 0 ≤ onO (l.findSome? fun i => bif p i then some (i : Int) else none) (fun r => r) (-1) → idxOk (onO (l.findSome? fun i => bif p i then some (i : Int) else none) (fun r => r) (-1)) n = true := by
    intro l
    induction l with
    | nil => intro _ h; exact absurd h (by show ¬ (0 : Int) ≤ -1; omega)
    | cons i l ih =>
      intro hl h
      rw [List.findSome?_cons] at h ⊢
      cases hp : p i
      · rw [hp] at h; exact ih (fun j hj => hl j (List.mem_cons_of_mem _ hj)) h
      · exact idx_ok (hl i (List.mem_cons_self ..))
  exact key _ (fun i hi => in_range hi) h
theorem cut_ok {i n : Nat} (h : i ≤ n) : cutOk (i : Int) n = true := by unfold cutOk; simp; omega
theorem len_eq {a b : Nat} (h : ((a : Int) != (b : Int)) = false) : a = b := by
  by_cases e : a = b
  · exact e
  · have : ((a : Int) != (b : Int)) = true := by simp; omega
    rw [this] at h; cases h

abbrev smRef (x : Ref) : Prop := tr x.fTx ∧ tr x.fAt
abbrev smRule (x : Rule) : Prop := (Lm tr) x.fKeys ∧ tr x.fNeed ∧ tr x.fAfter
abbrev smOut (x : Out) : Prop := tr x.fValue ∧ smRule x.fRule
abbrev smCoin (x : Coin) : Prop := smRef x.fRef ∧ smOut x.fOut ∧ tr x.fHeight ∧ tr x.fMined
abbrev smTx (x : Tx) : Prop := tr x.fKind ∧ tr x.fMember ∧ (Lm smRef) x.fIns ∧ (Lm smOut) x.fOuts
abbrev smCoinsResult (x : CoinsResult) : Prop := tr x.fCode ∧ (Lm smCoin) x.fCoins
/-! ### Rows marked, and held so -/
theorem chkT {α : Type} (t : Option α) : Zk.chk true t = t := rfl
theorem gt_set {α : Type} [Inhabited α] {xs : List α} {i : Nat} (h : i < xs.length) (a : α) : gt (xs.set i a) (i : Int) = a := by
  rw [gt_eq (by simpa using h)]; simp
theorem mark_held {α : Type} [Inhabited α] (L : Nat → List α → Int → Int → Option (List α × Int)) (H : List α → Nat → Int → Int → Option (Int ⊕ Int)) (B : Prop) (c : Int) (hc : 0 ≤ c) (p : α → Prop)
    (step : ∀ (acc : List α) (s : Int) (i : Nat), i < acc.length → p (gt acc (i : Int)) → 1 ≤ s → s + c ≤ 4611686018427387904 → ∃ y t, s ≤ t ∧ t ≤ s + c ∧ (∀ r, Evt (fun k => L k (acc.set i y) t (wrap64 ((i : Int) + 1))) r → Evt (fun k => L (k + 1) acc s (i : Int)) r) ∧
      (B → ∀ ys : List α, i < ys.length → gt ys (i : Int) = y → ∀ r, Evt (fun k => H ys k t (wrap64 ((i : Int) + 1))) r → Evt (fun k => H ys (k + 1) s (i : Int)) r))
    (doneL : ∀ (acc : List α) (s : Int), Evt (fun k => L (k + 1) acc s (acc.length : Int)) (acc, s)) (doneH : B → ∀ (ys : List α) (s : Int), Evt (fun k => H ys (k + 1) s (ys.length : Int)) (.inr s))
    (xs : List α) (hn : xs.length ≤ 9223372036854775807) (hp : ∀ x ∈ xs, p x) (s : Int) (h1 : 1 ≤ s) (h2 : s + xs.length * c ≤ 4611686018427387904) :
    ∃ ys t, ys.length = xs.length ∧ s ≤ t ∧ t ≤ s + xs.length * c ∧ Evt (fun k => L k xs s 0) (ys, t) ∧ (B → Evt (fun k => H ys k s 0) (.inr t)) := by
  have key : ∀ (d i : Nat) (acc : List α) (s : Int), i + d = xs.length → acc.length = xs.length → (∀ j, i ≤ j → acc[j]? = xs[j]?) → 1 ≤ s → s + d * c ≤ 4611686018427387904 →
      ∃ ys t, ys.length = xs.length ∧ (∀ j, j < i → ys[j]? = acc[j]?) ∧ s ≤ t ∧ t ≤ s + d * c ∧ Evt (fun k => L k acc s (i : Int)) (ys, t) ∧ (B → Evt (fun k => H ys k s (i : Int)) (.inr t)) := by
    intro d
    induction d with
    | zero =>
      intro i acc s hi hl _ h1 h2
      have e : (i : Int) = (acc.length : Int) := by omega
      exact ⟨acc, s, hl, fun _ _ => rfl, by omega, by omega, by rw [e]; exact Evt.s (doneL acc s), fun hB => by rw [e]; exact Evt.s (doneH hB acc s)⟩
    | succ d ih =>
      intro i acc s hi hl hj h1 h2
      have e : ((d + 1 : Nat) : Int) * c = d * c + c := by rw [Int.natCast_add, Int.add_mul]; simp
      have hdc : 0 ≤ (d : Int) * c := Int.mul_nonneg (by omega) hc
      rw [e] at h2
      have hlt : i < acc.length := by omega
      have hpx : p (gt acc (i : Int)) := by
        rw [gt_eq (by simpa using hlt)]
        have h5 := hj i (Nat.le_refl _)
        rw [List.getElem?_eq_getElem hlt] at h5
        exact hp _ (List.mem_of_getElem? h5.symm)
      obtain ⟨y, t1, a1, a2, a3, a4⟩ := step acc s i hlt hpx h1 (by omega)
      obtain ⟨ys, t, b1, b2, b3, b4, b5, b6⟩ := ih (i + 1) (acc.set i y) t1 (by omega) (by simp [hl]) (fun j hj' => by rw [List.getElem?_set_ne (by omega)]; exact hj j (by omega)) (by omega) (by omega)
      have hy : gt ys (i : Int) = y := by
        have h6 := b2 i (by omega)
        rw [List.getElem?_set_self hlt] at h6
        rw [gt_eq (by simp; omega)]
        have h7 : i < ys.length := by omega
        rw [List.getElem?_eq_getElem h7] at h6
        simpa using h6
      refine ⟨ys, t, b1, fun j hj' => ?_, by omega, by rw [e]; omega, Evt.s (a3 _ ?_), fun hB => Evt.s (a4 hB ys (by omega) hy _ ?_)⟩
      · rw [b2 j (by omega), List.getElem?_set_ne (by omega)]
      · rw [w64 (by omega : i < xs.length) hn]; exact b5
      · rw [w64 (by omega : i < xs.length) hn]; exact b6 hB
  obtain ⟨ys, t, a1, _, a3, a4, a5, a6⟩ := key xs.length 0 xs s (by omega) rfl (fun _ _ => rfl) h1 h2
  exact ⟨ys, t, a1, a3, a4, a5, a6⟩
/-! ### What is gathered in a row -/
theorem len_bif {α : Type} {c : Bool} {a b : List α} {n : Nat} (h : a.length ≤ n) (k : b.length ≤ n) : (bif c then a else b).length ≤ n := by cases c; exact k; exact h
theorem Evt.gatherL {σ : Type} {L : Nat → List σ → Int → Option (List σ)} (n : Nat) (hn : n ≤ 1048576) (st : List σ → Nat → List σ)
    (len : ∀ i, i < n → ∀ a, a.length ≤ i → (st a i).length ≤ i + 1)
    (step : ∀ i, i < n → ∀ a, a.length ≤ i → ∀ o, Evt (fun k => L k (st a i) (wrap64 ((i : Int) + 1))) o → Evt (fun k => L (k + 1) a (i : Int)) o)
    (done : ∀ (i : Nat) a, n ≤ i → Evt (fun k => L (k + 1) a (i : Int)) a) : Evt (fun k => L k [] 0) ((List.range' 0 (n - 0)).foldl st []) := by
  have key : ∀ d i (a : List σ), (i + d = n ∨ n ≤ i ∧ d = 0) → a.length ≤ i → Evt (fun k => L k a (i : Int)) ((List.range' i d).foldl st a) := by
    intro d
    induction d with
    | zero => intro i a hi _; exact Evt.s (done i a (by omega))
    | succ d ih =>
      intro i a hi ha
      rw [List.range'_succ, List.foldl_cons]
      refine Evt.s (step i (by omega) a ha _ ?_)
      rw [w64 (by omega : i < n) (by omega)]
      exact ih (i + 1) (st a i) (by omega) (len i (by omega) a ha)
  exact key (n - 0) 0 [] (by omega) (by simp)
theorem fold_len {σ : Type} (st : List σ → Nat → List σ) (h : ∀ a i, (st a i).length ≤ a.length + 1) : ∀ (l : List Nat) (a : List σ), (l.foldl st a).length ≤ a.length + l.length
  | [], a => by simp
  | i :: l, a => by
    have h1 := fold_len st h l (st a i)
    have h2 := h a i
    simp only [List.foldl_cons, List.length_cons]; omega
theorem fold_len0 {σ : Type} (st : List σ → Nat → List σ) (h : ∀ a i, (st a i).length ≤ a.length + 1) (n : Nat) : ((List.range' 0 (n - 0)).foldl st []).length ≤ n := by
  have := fold_len st h (List.range' 0 (n - 0)) []
  simpa using this
theorem cut_next {t : Int} {n : Nat} (h : idxOk t n = true) (hn : n ≤ 1048576) : cutOk (wrap64 (t + 1)) n = true := by
  have h1 := idx_lo h
  have h2 := idx_hi h
  rw [wrap64_in _ (by omega)]
  unfold cutOk; simp; omega
theorem cut_self {t : Int} {n : Nat} (h : idxOk t n = true) (hn : n ≤ 1048576) : cutOk t (wrap64 (t + 1)).toNat = true := by
  have h1 := idx_lo h
  have h2 := idx_hi h
  rw [wrap64_in _ (by omega)]
  unfold cutOk; simp; omega
theorem Lm_gath {α : Type} [Inhabited α] {sm : α → Prop} (x0 : List α) (h : Lm sm x0) (c : Nat → Bool) : Lm sm ((List.range' 0 (x0.length - 0)).foldl (fun ac (i : Nat) => bif c i then ac ++ ([gt x0 (i : Int)] : List α) else ac) ([] : List α)) := by
  have key : ∀ d i (a : List α), i + d = x0.length → (∀ x ∈ a, sm x) → a.length ≤ i → (∀ x ∈ (List.range' i d).foldl (fun ac (i : Nat) => bif c i then ac ++ ([gt x0 (i : Int)] : List α) else ac) a, sm x) ∧ ((List.range' i d).foldl (fun ac (i : Nat) => bif c i then ac ++ ([gt x0 (i : Int)] : List α) else ac) a).length ≤ x0.length := by
    intro d
    induction d with
    | zero => intro i a hi ha hl; exact ⟨ha, by show a.length ≤ _; omega⟩
    | succ d ih =>
      intro i a hi ha hl
      rw [List.range'_succ, List.foldl_cons]
      refine ih (i + 1) _ (by omega) ?_ ?_
      · cases c i
        · exact ha
        · intro x hx
          rw [cond_true, List.mem_append] at hx
          rcases hx with hx | hx
          · exact ha x hx
          · rw [List.mem_singleton] at hx; subst hx; exact h.2 _ (gt_mem (by omega))
      · cases c i
        · show a.length ≤ i + 1; omega
        · simp; omega
  obtain ⟨h1, h2⟩ := key x0.length 0 [] (by omega) (fun x hx => by cases hx) (by simp)
  exact ⟨Nat.le_trans h2 h.1, h1⟩
/-! ### A loop over a row, with a state that turns, or an early end -/
def stepAll {σ τ : Type} (g : σ → τ → Option σ) : σ → List τ → Option σ
  | s, [] => some s
  | s, r :: rs => match g s r with
    | none => none
    | some t => stepAll g t rs
theorem Evt.steps {σ τ β : Type} [Inhabited τ] {L : Nat → σ → Int → Option (β ⊕ σ)} (rs : List τ) (hn : rs.length ≤ 9223372036854775807) (I : σ → Prop) (g : σ → τ → Option σ) (bad : β)
    (step : ∀ i, i < rs.length → ∀ s, I s → ∀ o, (∀ t, g s (gt rs (i : Int)) = some t → Evt (fun k => L k t (wrap64 ((i : Int) + 1))) o) → (g s (gt rs (i : Int)) = none → o = .inl bad) → Evt (fun k => L (k + 1) s (i : Int)) o)
    (pres : ∀ s r t, I s → g s r = some t → I t) (done : ∀ s, Evt (fun k => L (k + 1) s (rs.length : Int)) (.inr s)) (s : σ) (hs : I s) :
    Evt (fun k => L k s 0) (match stepAll g s rs with | some t => .inr t | none => .inl bad) := by
  have key : ∀ d i s, i + d = rs.length → I s → Evt (fun k => L k s (i : Int)) (match stepAll g s (rs.drop i) with | some t => .inr t | none => .inl bad) := by
    intro d
    induction d with
    | zero =>
      intro i s hi hs
      rw [List.drop_of_length_le (by omega)]
      have e : i = rs.length := by omega
      subst e
      exact Evt.s (done s)
    | succ d ih =>
      intro i s hi hs
      have hlt : i < rs.length := by omega
      rw [List.drop_eq_getElem_cons hlt]
      have hg : gt rs (i : Int) = rs[i] := gt_eq (by simpa using hlt)
      refine Evt.s (step i hlt s hs _ (fun t ht => ?_) (fun ht => ?_))
      · rw [hg] at ht
        rw [w64 hlt hn]
        have := ih (i + 1) t (by omega) (pres _ _ _ hs ht)
        simp only [stepAll, ht]
        exact this
      · rw [hg] at ht
        simp only [stepAll, ht]
  exact key rs.length 0 s (by omega) hs
theorem stepAll_pres {σ τ : Type} {g : σ → τ → Option σ} {I : σ → Prop} (pres : ∀ s r t, I s → g s r = some t → I t) : ∀ (rs : List τ) (s t : σ), I s → stepAll g s rs = some t → I t
  | [], s, t, hs, h => by cases h; exact hs
  | r :: rs, s, t, hs, h => by
    simp only [stepAll] at h
    cases hg : g s r with
    | none => rw [hg] at h; cases h
    | some u => rw [hg] at h; exact stepAll_pres pres rs u t (pres _ _ _ hs hg) h
theorem stepAll_same {σ τ : Type} {g g' : σ → τ → Option σ} {I : σ → Prop} (pres : ∀ s r t, I s → g s r = some t → I t) (same : ∀ s r, I s → g s r = g' s r) : ∀ (rs : List τ) (s : σ), I s → stepAll g s rs = stepAll g' s rs
  | [], s, _ => rfl
  | r :: rs, s, hs => by
    simp only [stepAll]
    rw [← same s r hs]
    cases hg : g s r with
    | none => rfl
    | some u => exact stepAll_same pres same rs u (pres _ _ _ hs hg)
theorem Lm_sub {α : Type} {sm : α → Prop} {xs ys : List α} (h : Lm sm xs) (s : ys.Sublist xs) : Lm sm ys := ⟨Nat.le_trans s.length_le h.1, fun x hx => h.2 x (s.subset hx)⟩
theorem cut_sub {α : Type} (xs : List α) {a b : Nat} (h : a ≤ b) : (xs.take a ++ xs.drop b).Sublist xs := by
  have h1 : (xs.take a ++ xs.drop b).Sublist (xs.take a ++ xs.drop a) := List.Sublist.append (.refl _) (by
    have e : xs.drop b = (xs.drop a).drop (b - a) := by rw [List.drop_drop]; congr 1; omega
    rw [e]; exact List.drop_sublist _ _)
  rw [List.take_append_drop] at h1
  exact h1
theorem fs_all {β : Type} {p : Nat → Option β} {n : Nat} (h : (List.range' 0 (n - 0)).findSome? p = none) : ∀ i, i < n → p i = none := by
  intro i hi
  rw [List.findSome?_eq_none_iff] at h
  exact h i (by rw [List.mem_range']; exact ⟨i, by omega, by omega⟩)
theorem onO_zero {l : List Nat} {p : Nat → Option Int} {c : Int} (h : onO (l.findSome? p) (fun r => r) c = 0) (hp : ∀ i, p i ≠ some 0) : l.findSome? p = none ∧ c = 0 := by
  cases hf : l.findSome? p with
  | none => rw [hf] at h; exact ⟨rfl, h⟩
  | some r =>
    rw [hf] at h
    obtain ⟨i, _, hi⟩ := List.exists_of_findSome?_eq_some hf
    have : r = 0 := h
    subst this
    exact absurd hi (hp i)
/-! ### A loop over a row, as a fold over it -/
theorem range_foldl {α β : Type} [Inhabited α] (xs : List α) (f : β → α → β) (a : β) : (List.range' 0 (xs.length - 0)).foldl (fun ac (i : Nat) => f ac (gt xs (i : Int))) a = xs.foldl f a := by
  have key : ∀ d i a, i + d = xs.length → (List.range' i d).foldl (fun ac (i : Nat) => f ac (gt xs (i : Int))) a = (xs.drop i).foldl f a := by
    intro d
    induction d with
    | zero => intro i a h; rw [List.drop_eq_nil_of_le (by omega)]; rfl
    | succ d ih =>
      intro i a h
      have hi : i < xs.length := by omega
      rw [List.range'_succ, List.foldl_cons, ih (i + 1) _ (by omega), List.drop_eq_getElem_cons hi, List.foldl_cons, gt_eq (by simpa using hi)]
      simp
  simpa using key xs.length 0 a (by omega)
theorem fold_if {α β : Type} (c : α → Bool) (g : β → α → β) : ∀ (xs : List α) (ys : List α) (b : β), (xs.foldl (fun ac x => bif c x then ac ++ [x] else ac) ys).foldl g b = xs.foldl (fun n x => bif c x then g n x else n) (ys.foldl g b)
  | [], ys, b => rfl
  | x :: xs, ys, b => by
    rw [List.foldl_cons, List.foldl_cons, fold_if c g xs]
    cases c x
    · rfl
    · rw [cond_true, cond_true, List.foldl_append]; rfl
theorem fold_map {α β : Type} (g : α → β) : ∀ (xs : List α) (ys : List β), xs.foldl (fun ac x => ac ++ [g x]) ys = ys ++ xs.map g
  | [], ys => by simp
  | x :: xs, ys => by rw [List.foldl_cons, fold_map g xs]; simp
theorem leB_of {a b : Nat} (h : a ≤ b) : leB a b = true := decide_eq_true h
theorem szInt64S_ev (x : List Int) (o : (Lok (iOk .i64)) x) (l : Int) (h0 : 0 ≤ l) (h1 : l ≤ 1048576) : ∃ t, Evt (fun k => laws_szInt64S.f k x l) t ∧ t ≤ l ∧ (0 ≤ t → (Lm tr) x) := by
  have hn := o.1
  exact ⟨szL x.length l, Evt.if_ (Evt.self _) (Evt.self _), szL_le h0 h1 hn, fun h => ⟨by have := szL_ok (n := x.length) (l := l) (by simpa using h) h0 h1 hn; omega, by simp⟩⟩
theorem szRule_ev (x : Rule) (o : okRule x) (l : Int) (h0 : 0 ≤ l) (h1 : l ≤ 1048576) : ∃ t, Evt (fun k => laws_szRule.f k x l) t ∧ t ≤ l ∧ (0 ≤ t → smRule x) := by
  obtain ⟨t0, e0, l0, s0⟩ := szInt64S_ev x.fKeys o.1 l (by omega) (by omega)
  by_cases c0 : t0 < 0
  · exact ⟨-1, Evt.bind e0 (Evt.t (by simpa using c0) (Evt.self _)), by omega, fun h => by omega⟩
  exact ⟨t0, Evt.bind e0 (Evt.f (by simpa using c0) (Evt.self _)), by omega, fun _ => ⟨s0 (by omega), (by repeat' (first | trivial | constructor)), (by repeat' (first | trivial | constructor))⟩⟩
theorem szOut_ev (x : Out) (o : okOut x) (l : Int) (h0 : 0 ≤ l) (h1 : l ≤ 1048576) : ∃ t, Evt (fun k => laws_szOut.f k x l) t ∧ t ≤ l ∧ (0 ≤ t → smOut x) := by
  obtain ⟨t0, e0, l0, s0⟩ := szRule_ev x.fRule o.2 l (by omega) (by omega)
  by_cases c0 : t0 < 0
  · exact ⟨-1, Evt.bind e0 (Evt.t (by simpa using c0) (Evt.self _)), by omega, fun h => by omega⟩
  exact ⟨t0, Evt.bind e0 (Evt.f (by simpa using c0) (Evt.self _)), by omega, fun _ => ⟨(by repeat' (first | trivial | constructor)), s0 (by omega)⟩⟩
theorem szCoin_ev (x : Coin) (o : okCoin x) (l : Int) (h0 : 0 ≤ l) (h1 : l ≤ 1048576) : ∃ t, Evt (fun k => laws_szCoin.f k x l) t ∧ t ≤ l ∧ (0 ≤ t → smCoin x) := by
  obtain ⟨t0, e0, l0, s0⟩ := szOut_ev x.fOut o.2.1 l (by omega) (by omega)
  by_cases c0 : t0 < 0
  · exact ⟨-1, Evt.bind e0 (Evt.t (by simpa using c0) (Evt.self _)), by omega, fun h => by omega⟩
  exact ⟨t0, Evt.bind e0 (Evt.f (by simpa using c0) (Evt.self _)), by omega, fun _ => ⟨(by repeat' (first | trivial | constructor)), s0 (by omega), (by repeat' (first | trivial | constructor)), (by repeat' (first | trivial | constructor))⟩⟩
theorem szCoinS_ev (x : List Coin) (o : (Lok okCoin) x) (l : Int) (h0 : 0 ≤ l) (h1 : l ≤ 1048576) : ∃ t, Evt (fun k => laws_szCoinS.f k x l) t ∧ t ≤ l ∧ (0 ≤ t → (Lm smCoin) x) := by
  have hn := o.1
  have hn' : x.length ≤ 9223372036854775807 := by simpa [maxLen] using hn
  by_cases c : decide (szL x.length l < 0) = true
  · refine ⟨-1, (Evt.t (f := fun _ => some (-1)) ?_ (Evt.self _)), by omega, fun h => by omega⟩
    have e : wrap64 (l - (x.length : Int)) = l - (x.length : Int) := by unfold wrap64; omega
    rw [e]
    by_cases c2 : l - (x.length : Int) < 0
    · exact decide_eq_true c2
    · unfold szL at c; rw [e, decide_eq_false c2] at c; simp at c; omega
  have c' : decide (szL x.length l < 0) = false := by simpa using c
  obtain ⟨h2, h3⟩ := szL_ok c' h0 h1 hn
  have e : wrap64 (l - (x.length : Int)) = l - (x.length : Int) := by unfold wrap64; omega
  obtain ⟨r, hr, hr2⟩ := Evt.szl (L := fun k left i => laws_szCoinS.l0 x k left i) (sm := smCoin) x hn' (fun i hi left a0 a1 => by
    obtain ⟨t, e1, e2, e3⟩ := szCoin_ev (gt x (i : Int)) (o.2 _ (gt_mem hi)) left a0 a1
    refine ⟨t, e2, e3, fun c => ?_, fun o c ho => ?_⟩
    · refine Evt.s ?_
      simp only [laws_szCoinS.l0_s]
      exact Evt.t (int_lt hi) (Evt.chk (idx_ok hi) (Evt.bind e1 (Evt.t (by simpa using c) (Evt.self _))))
    · refine Evt.s ?_
      simp only [laws_szCoinS.l0_s]
      exact Evt.t (int_lt hi) (Evt.chk (idx_ok hi) (Evt.bind e1 (Evt.f (by simpa using c) ho)))) (fun left => by
    refine Evt.s ?_
    simp only [laws_szCoinS.l0_s]
    exact Evt.f int_nlt (Evt.self _)) (l - (x.length : Int)) (by omega) (by omega)
  refine ⟨onw r id id, Evt.f (by rw [e]; simpa using h2) (Evt.thn (r' := id) (g' := id) (by rw [e]; exact hr) (fun _ => rfl) (fun y _ => Evt.self y)), ?_, ?_⟩
  · cases r with
    | inl r => have h5 : r = -1 := hr2; subst h5; show (-1 : Int) ≤ l; omega
    | inr t => have h5 : 0 ≤ t ∧ t ≤ l - (x.length : Int) ∧ _ := hr2; show t ≤ l; omega
  · intro h
    cases r with
    | inl r => have h5 : r = -1 := hr2; subst h5; simp [onw] at h
    | inr t => have h5 : 0 ≤ t ∧ t ≤ l - (x.length : Int) ∧ _ := hr2; exact ⟨by omega, h5.2.2⟩
theorem szRefS_ev (x : List Ref) (o : (Lok okRef) x) (l : Int) (h0 : 0 ≤ l) (h1 : l ≤ 1048576) : ∃ t, Evt (fun k => laws_szRefS.f k x l) t ∧ t ≤ l ∧ (0 ≤ t → (Lm smRef) x) := by
  have hn := o.1
  exact ⟨szL x.length l, Evt.if_ (Evt.self _) (Evt.self _), szL_le h0 h1 hn, fun h => ⟨by have := szL_ok (n := x.length) (l := l) (by simpa using h) h0 h1 hn; omega, by simp⟩⟩
theorem szOutS_ev (x : List Out) (o : (Lok okOut) x) (l : Int) (h0 : 0 ≤ l) (h1 : l ≤ 1048576) : ∃ t, Evt (fun k => laws_szOutS.f k x l) t ∧ t ≤ l ∧ (0 ≤ t → (Lm smOut) x) := by
  have hn := o.1
  have hn' : x.length ≤ 9223372036854775807 := by simpa [maxLen] using hn
  by_cases c : decide (szL x.length l < 0) = true
  · refine ⟨-1, (Evt.t (f := fun _ => some (-1)) ?_ (Evt.self _)), by omega, fun h => by omega⟩
    have e : wrap64 (l - (x.length : Int)) = l - (x.length : Int) := by unfold wrap64; omega
    rw [e]
    by_cases c2 : l - (x.length : Int) < 0
    · exact decide_eq_true c2
    · unfold szL at c; rw [e, decide_eq_false c2] at c; simp at c; omega
  have c' : decide (szL x.length l < 0) = false := by simpa using c
  obtain ⟨h2, h3⟩ := szL_ok c' h0 h1 hn
  have e : wrap64 (l - (x.length : Int)) = l - (x.length : Int) := by unfold wrap64; omega
  obtain ⟨r, hr, hr2⟩ := Evt.szl (L := fun k left i => laws_szOutS.l0 x k left i) (sm := smOut) x hn' (fun i hi left a0 a1 => by
    obtain ⟨t, e1, e2, e3⟩ := szOut_ev (gt x (i : Int)) (o.2 _ (gt_mem hi)) left a0 a1
    refine ⟨t, e2, e3, fun c => ?_, fun o c ho => ?_⟩
    · refine Evt.s ?_
      simp only [laws_szOutS.l0_s]
      exact Evt.t (int_lt hi) (Evt.chk (idx_ok hi) (Evt.bind e1 (Evt.t (by simpa using c) (Evt.self _))))
    · refine Evt.s ?_
      simp only [laws_szOutS.l0_s]
      exact Evt.t (int_lt hi) (Evt.chk (idx_ok hi) (Evt.bind e1 (Evt.f (by simpa using c) ho)))) (fun left => by
    refine Evt.s ?_
    simp only [laws_szOutS.l0_s]
    exact Evt.f int_nlt (Evt.self _)) (l - (x.length : Int)) (by omega) (by omega)
  refine ⟨onw r id id, Evt.f (by rw [e]; simpa using h2) (Evt.thn (r' := id) (g' := id) (by rw [e]; exact hr) (fun _ => rfl) (fun y _ => Evt.self y)), ?_, ?_⟩
  · cases r with
    | inl r => have h5 : r = -1 := hr2; subst h5; show (-1 : Int) ≤ l; omega
    | inr t => have h5 : 0 ≤ t ∧ t ≤ l - (x.length : Int) ∧ _ := hr2; show t ≤ l; omega
  · intro h
    cases r with
    | inl r => have h5 : r = -1 := hr2; subst h5; simp [onw] at h
    | inr t => have h5 : 0 ≤ t ∧ t ≤ l - (x.length : Int) ∧ _ := hr2; exact ⟨by omega, h5.2.2⟩
theorem szTx_ev (x : Tx) (o : okTx x) (l : Int) (h0 : 0 ≤ l) (h1 : l ≤ 1048576) : ∃ t, Evt (fun k => laws_szTx.f k x l) t ∧ t ≤ l ∧ (0 ≤ t → smTx x) := by
  obtain ⟨t0, e0, l0, s0⟩ := szRefS_ev x.fIns o.2.2.1 l (by omega) (by omega)
  by_cases c0 : t0 < 0
  · exact ⟨-1, Evt.bind e0 (Evt.t (by simpa using c0) (Evt.self _)), by omega, fun h => by omega⟩
  obtain ⟨t1, e1, l1, s1⟩ := szOutS_ev x.fOuts o.2.2.2 t0 (by omega) (by omega)
  by_cases c1 : t1 < 0
  · exact ⟨-1, Evt.bind e0 (Evt.f (by simpa using c0) (Evt.bind e1 (Evt.t (by simpa using c1) (Evt.self _)))), by omega, fun h => by omega⟩
  exact ⟨t1, Evt.bind e0 (Evt.f (by simpa using c0) (Evt.bind e1 (Evt.f (by simpa using c1) (Evt.self _)))), by omega, fun _ => ⟨(by repeat' (first | trivial | constructor)), (by repeat' (first | trivial | constructor)), s0 (by omega), s1 (by omega)⟩⟩
theorem toRef_ev (x : Ref) (h : smRef x) : Evt (fun k => laws_toRef.f k x) x := Evt.self _
theorem toInt64S_ev (x : List Int) (h : (Lm tr) x) : Evt (fun k => laws_toInt64S.f k x) x := by
  have hn := h.1
  refine Evt.chk (by simp) (Evt.chk (by simp [leB]; omega) (Evt.bind (a := x) ?_ (Evt.self _)))
  have := Evt.copy (L := fun k acc i => laws_toInt64S.l0 x k acc i) x id (by omega) (fun acc i hl hi r hr => ?_) (fun acc => ?_) (List.replicate ((x.length : Int)).toNat 0) (by simp)
  · simpa using this
  · refine Evt.s ?_
    simp only [laws_toInt64S.l0_s]
    refine Evt.t (int_lt hi) (Evt.chk (idx_ok hi) (Evt.chk (idx_ok (hl ▸ hi)) ?_))
    simpa using hr
  · refine Evt.s ?_
    simp only [laws_toInt64S.l0_s]
    exact Evt.f int_nlt (Evt.self _)
theorem toRule_ev (x : Rule) (h : smRule x) : Evt (fun k => laws_toRule.f k x) x := Evt.bind (toInt64S_ev _ h.1) (Evt.self _)
theorem toOut_ev (x : Out) (h : smOut x) : Evt (fun k => laws_toOut.f k x) x := Evt.bind (toRule_ev _ h.2) (Evt.self _)
theorem toCoin_ev (x : Coin) (h : smCoin x) : Evt (fun k => laws_toCoin.f k x) x := Evt.bind (toRef_ev _ h.1) (Evt.bind (toOut_ev _ h.2.1) (Evt.self _))
theorem toCoinS_ev (x : List Coin) (h : (Lm smCoin) x) : Evt (fun k => laws_toCoinS.f k x) x := by
  have hn := h.1
  refine Evt.chk (by simp) (Evt.chk (by simp [leB]; omega) (Evt.bind (a := x) ?_ (Evt.self _)))
  have := Evt.copy (L := fun k acc i => laws_toCoinS.l0 x k acc i) x id (by omega) (fun acc i hl hi r hr => ?_) (fun acc => ?_) (List.replicate ((x.length : Int)).toNat (⟨(⟨0, 0⟩ : Ref), (⟨0, (⟨[], 0, 0⟩ : Rule)⟩ : Out), 0, false⟩ : Coin)) (by simp)
  · simpa using this
  · refine Evt.s ?_
    simp only [laws_toCoinS.l0_s]
    refine Evt.t (int_lt hi) (Evt.chk (idx_ok hi) (Evt.bind (toCoin_ev _ (h.2 _ (gt_mem hi))) (Evt.chk (idx_ok (hl ▸ hi)) ?_)))
    simpa using hr
  · refine Evt.s ?_
    simp only [laws_toCoinS.l0_s]
    exact Evt.f int_nlt (Evt.self _)
theorem toRefS_ev (x : List Ref) (h : (Lm smRef) x) : Evt (fun k => laws_toRefS.f k x) x := by
  have hn := h.1
  refine Evt.chk (by simp) (Evt.chk (by simp [leB]; omega) (Evt.bind (a := x) ?_ (Evt.self _)))
  have := Evt.copy (L := fun k acc i => laws_toRefS.l0 x k acc i) x id (by omega) (fun acc i hl hi r hr => ?_) (fun acc => ?_) (List.replicate ((x.length : Int)).toNat (⟨0, 0⟩ : Ref)) (by simp)
  · simpa using this
  · refine Evt.s ?_
    simp only [laws_toRefS.l0_s]
    refine Evt.t (int_lt hi) (Evt.chk (idx_ok hi) (Evt.bind (toRef_ev _ (h.2 _ (gt_mem hi))) (Evt.chk (idx_ok (hl ▸ hi)) ?_)))
    simpa using hr
  · refine Evt.s ?_
    simp only [laws_toRefS.l0_s]
    exact Evt.f int_nlt (Evt.self _)
theorem toOutS_ev (x : List Out) (h : (Lm smOut) x) : Evt (fun k => laws_toOutS.f k x) x := by
  have hn := h.1
  refine Evt.chk (by simp) (Evt.chk (by simp [leB]; omega) (Evt.bind (a := x) ?_ (Evt.self _)))
  have := Evt.copy (L := fun k acc i => laws_toOutS.l0 x k acc i) x id (by omega) (fun acc i hl hi r hr => ?_) (fun acc => ?_) (List.replicate ((x.length : Int)).toNat (⟨0, (⟨[], 0, 0⟩ : Rule)⟩ : Out)) (by simp)
  · simpa using this
  · refine Evt.s ?_
    simp only [laws_toOutS.l0_s]
    refine Evt.t (int_lt hi) (Evt.chk (idx_ok hi) (Evt.bind (toOut_ev _ (h.2 _ (gt_mem hi))) (Evt.chk (idx_ok (hl ▸ hi)) ?_)))
    simpa using hr
  · refine Evt.s ?_
    simp only [laws_toOutS.l0_s]
    exact Evt.f int_nlt (Evt.self _)
theorem toTx_ev (x : Tx) (h : smTx x) : Evt (fun k => laws_toTx.f k x) x := Evt.bind (toRefS_ev _ h.2.2.1) (Evt.bind (toOutS_ev _ h.2.2.2) (Evt.self _))
def spec_l1In_v (x0 : Int) (x1 : Int) (x2 : Int) : Bool := ((decide (x1 ≤ x0)) && (decide (x0 ≤ x2)))
theorem spec_l1In_ev (x0 : Int) (x1 : Int) (x2 : Int)  : Evt (fun k => spec_l1In.f k x0 x1 x2) (spec_l1In_v x0 x1 x2) :=
  (Evt.self _)
def spec_l3Ref_v (x0 : Ref) : Bool := ((spec_l1In_v x0.fTx 1 60) && (bif (spec_l1In_v x0.fTx 1 60) then (spec_l1In_v x0.fAt 0 3) else default))
theorem spec_l3Ref_ev (x0 : Ref)  : Evt (fun k => spec_l3Ref.f k x0) (spec_l3Ref_v x0) :=
  (Evt.bind (spec_l1In_ev x0.fTx 1 60) (Evt.bind (Evt.ifh (fun _ => (spec_l1In_ev x0.fAt 0 3)) (fun _ => Evt.self _)) (Evt.self _)))
def spec_l2Height_v (x0 : Int) : Bool := (spec_l1In_v x0 0 999)
theorem spec_l2Height_ev (x0 : Int)  : Evt (fun k => spec_l2Height.f k x0) (spec_l2Height_v x0) :=
  (Evt.bind (spec_l1In_ev x0 0 999) (Evt.self _))
def spec_l1Key_v (x0 : Int) : Bool := (spec_l1In_v x0 1 999)
theorem spec_l1Key_ev (x0 : Int)  : Evt (fun k => spec_l1Key.f k x0) (spec_l1Key_v x0) :=
  (Evt.bind (spec_l1In_ev x0 1 999) (Evt.self _))
def spec_l2Fault_v (x0 : Rule) : Int := (bif !(spec_l1In_v (x0.fKeys.length : Int) 1 3) then 2 else (onO ((List.range' 0 (x0.fKeys.length - 0)).findSome? (fun (i0 : Nat) => (bif !(spec_l1Key_v (gt x0.fKeys (i0 : Int))) then (some 3) else none))) (fun r => r) (bif ((!(spec_l1In_v x0.fNeed 1 (x0.fKeys.length : Int))) || (!(bif (!(!(spec_l1In_v x0.fNeed 1 (x0.fKeys.length : Int)))) then (spec_l2Height_v x0.fAfter) else default))) then 3 else (onO ((List.range' 1 (x0.fKeys.length - 1)).findSome? (fun (i2 : Nat) => (bif (decide ((gt x0.fKeys (i2 : Int)) ≤ (gt x0.fKeys (wrap64 ((i2 : Int) - 1))))) then (some 1) else none))) (fun r => r) 0))))
theorem spec_l2Fault_ev (x0 : Rule) (h_x0 : smRule x0) : Evt (fun k => spec_l2Fault.f k x0) (spec_l2Fault_v x0) :=
  (Evt.bind (spec_l1In_ev (x0.fKeys.length : Int) 1 3) (Evt.ifh (fun hc5 => (Evt.self _)) (fun hc5 => (Evt.loop (r' := fun r => r) (Evt.srch (L := (fun k i => spec_l2Fault.l0 x0 k i)) 0 x0.fKeys.length (by have := h_x0.1; first | (have := this.1; omega) | omega) (fun (i0 : Nat) => (bif !(spec_l1Key_v (gt x0.fKeys (i0 : Int))) then (some 3) else none)) (fun i0 hs2 hi2 => by
  have hbn : x0.fKeys.length ≤ 9223372036854775807 := (by have := h_x0.1; first | (have := this.1; omega) | omega)
  simp only [spec_l2Fault.l0_s]
  exact Evt_t2 (int_lt hi2) (StE.chk (by first | exact idx_ok (by omega) | exact idx_ok (by have hq := len_eq (by assumption); omega) | exact idx_found (show (0 : Int) ≤ (i0 : Int) by simp_all) | exact cut_ok (by omega) | exact or_ok (idx_ok (by omega)) | (refine or1 (fun hz => pre_ok (by simp at hz; omega) (by omega) (by omega))) | exact pre_ok (by omega) (by omega) (by omega) | (simp_all [idxOk, cutOk, leB]; done) | (simp_all [idxOk, cutOk, leB]; omega) | (simp [idxOk, cutOk, leB] at *; omega) | (have hf0 := h_x0.1.1; simp only [leB, decide_eq_true_eq, List.length_append, List.length_cons, List.length_nil]; omega)) (StE.bind (spec_l1Key_ev (gt x0.fKeys (i0 : Int))) (StE.ifh (fun hc1 => (StE.ret _)) (fun hc1 => StE.next))))) (fun j hj => by
  simp only [spec_l2Fault.l0_s]
  exact Evt.f (ge_lt hj) (Evt.self _))) (fun _ => rfl) (Evt.bind (spec_l1In_ev x0.fNeed 1 (x0.fKeys.length : Int)) (Evt.bind (Evt.ifh (fun _ => (spec_l2Height_ev x0.fAfter)) (fun _ => Evt.self _)) (Evt.ifh (fun hc4 => (Evt.self _)) (fun hc4 => (Evt.loop (r' := fun r => r) (Evt.srch (L := (fun k i => spec_l2Fault.l1 x0 k i)) 1 x0.fKeys.length (by have := h_x0.1; first | (have := this.1; omega) | omega) (fun (i2 : Nat) => (bif (decide ((gt x0.fKeys (i2 : Int)) ≤ (gt x0.fKeys (wrap64 ((i2 : Int) - 1))))) then (some 1) else none)) (fun i2 hs4 hi4 => by
  have hbn : x0.fKeys.length ≤ 9223372036854775807 := (by have := h_x0.1; first | (have := this.1; omega) | omega)
  simp only [spec_l2Fault.l1_s]
  exact Evt_t2 (int_lt hi4) (StE.chk (by first | exact idx_ok (by omega) | exact idx_ok (by have hq := len_eq (by assumption); omega) | exact idx_found (show (0 : Int) ≤ (i2 : Int) by simp_all) | exact cut_ok (by omega) | exact or_ok (idx_ok (by omega)) | (refine or1 (fun hz => pre_ok (by simp at hz; omega) (by omega) (by omega))) | exact pre_ok (by omega) (by omega) (by omega) | (simp_all [idxOk, cutOk, leB]; done) | (simp_all [idxOk, cutOk, leB]; omega) | (simp [idxOk, cutOk, leB] at *; omega) | (have hf0 := h_x0.1.1; simp only [leB, decide_eq_true_eq, List.length_append, List.length_cons, List.length_nil]; omega)) (StE.chk (by first | exact idx_ok (by omega) | exact idx_ok (by have hq := len_eq (by assumption); omega) | exact idx_found (show (0 : Int) ≤ (wrap64 ((i2 : Int) - 1)) by simp_all) | exact cut_ok (by omega) | exact or_ok (idx_ok (by omega)) | (refine or1 (fun hz => pre_ok (by simp at hz; omega) (by omega) (by omega))) | exact pre_ok (by omega) (by omega) (by omega) | (simp_all [idxOk, cutOk, leB]; done) | (simp_all [idxOk, cutOk, leB]; omega) | (simp [idxOk, cutOk, leB] at *; omega) | (have hf0 := h_x0.1.1; simp only [leB, decide_eq_true_eq, List.length_append, List.length_cons, List.length_nil]; omega)) (StE.ifh (fun hc3 => (StE.ret _)) (fun hc3 => StE.next))))) (fun j hj => by
  simp only [spec_l2Fault.l1_s]
  exact Evt.f (ge_lt hj) (Evt.self _))) (fun _ => rfl) (Evt.self _))))))))))
def spec_l4Out_v (x0 : Out) : Int := (bif !(spec_l1In_v x0.fValue 1 1000000) then 3 else (spec_l2Fault_v x0.fRule))
theorem spec_l4Out_ev (x0 : Out) (h_x0 : smOut x0) : Evt (fun k => spec_l4Out.f k x0) (spec_l4Out_v x0) :=
  (Evt.bind (spec_l1In_ev x0.fValue 1 1000000) (Evt.ifh (fun hc0 => (Evt.self _)) (fun hc0 => (Evt.bind (spec_l2Fault_ev x0.fRule (h_x0.2)) (Evt.self _)))))
def spec_l4Ahead_v (x0 : Ref) (x1 : Ref) : Bool := (bif (x0.fTx != x1.fTx) then (decide (x0.fTx < x1.fTx)) else (decide (x0.fAt < x1.fAt)))
theorem spec_l4Ahead_ev (x0 : Ref) (x1 : Ref)  : Evt (fun k => spec_l4Ahead.f k x0 x1) (spec_l4Ahead_v x0 x1) :=
  (Evt.ifh (fun hc0 => (Evt.self _)) (fun hc0 => (Evt.self _)))
def spec_l4Fault_v (x0 : List Coin) : Int := (bif (decide (40 < (x0.length : Int))) then 2 else (onO ((List.range' 0 (x0.length - 0)).findSome? (fun (i0 : Nat) => (bif ((!(spec_l3Ref_v ((gt x0 (i0 : Int)).fRef))) || (!(bif (!(!(spec_l3Ref_v ((gt x0 (i0 : Int)).fRef)))) then (spec_l2Height_v ((gt x0 (i0 : Int)).fHeight)) else default))) then (some 3) else (bif ((spec_l4Out_v ((gt x0 (i0 : Int)).fOut)) != 0) then (some (spec_l4Out_v ((gt x0 (i0 : Int)).fOut))) else (bif ((decide (0 < (i0 : Int))) && (!(bif (decide (0 < (i0 : Int))) then (spec_l4Ahead_v ((gt x0 (wrap64 ((i0 : Int) - 1))).fRef) ((gt x0 (i0 : Int)).fRef)) else default))) then (some 1) else none))))) (fun r => r) 0))
theorem spec_l4Fault_ev (x0 : List Coin) (h_x0 : (Lm smCoin) x0) : Evt (fun k => spec_l4Fault.f k x0) (spec_l4Fault_v x0) :=
  (Evt.ifh (fun hc4 => (Evt.self _)) (fun hc4 => (Evt.loop (r' := fun r => r) (Evt.srch (L := (fun k i => spec_l4Fault.l0 x0 k i)) 0 x0.length (by have := h_x0; first | (have := this.1; omega) | omega) (fun (i0 : Nat) => (bif ((!(spec_l3Ref_v ((gt x0 (i0 : Int)).fRef))) || (!(bif (!(!(spec_l3Ref_v ((gt x0 (i0 : Int)).fRef)))) then (spec_l2Height_v ((gt x0 (i0 : Int)).fHeight)) else default))) then (some 3) else (bif ((spec_l4Out_v ((gt x0 (i0 : Int)).fOut)) != 0) then (some (spec_l4Out_v ((gt x0 (i0 : Int)).fOut))) else (bif ((decide (0 < (i0 : Int))) && (!(bif (decide (0 < (i0 : Int))) then (spec_l4Ahead_v ((gt x0 (wrap64 ((i0 : Int) - 1))).fRef) ((gt x0 (i0 : Int)).fRef)) else default))) then (some 1) else none)))) (fun i0 hs4 hi4 => by
  have hbn : x0.length ≤ 9223372036854775807 := (by have := h_x0; first | (have := this.1; omega) | omega)
  simp only [spec_l4Fault.l0_s]
  exact Evt_t2 (int_lt hi4) (StE.chk (by first | exact idx_ok (by omega) | exact idx_ok (by have hq := len_eq (by assumption); omega) | exact idx_found (show (0 : Int) ≤ (i0 : Int) by simp_all) | exact cut_ok (by omega) | exact or_ok (idx_ok (by omega)) | (refine or1 (fun hz => pre_ok (by simp at hz; omega) (by omega) (by omega))) | exact pre_ok (by omega) (by omega) (by omega) | (simp_all [idxOk, cutOk, leB]; done) | (simp_all [idxOk, cutOk, leB]; omega) | (simp [idxOk, cutOk, leB] at *; omega) | (have hf0 := h_x0.1; simp only [leB, decide_eq_true_eq, List.length_append, List.length_cons, List.length_nil]; omega)) (StE.bind (spec_l3Ref_ev ((gt x0 (i0 : Int)).fRef)) (StE.chk (by first | exact idx_ok (by omega) | exact idx_ok (by have hq := len_eq (by assumption); omega) | exact idx_found (by simp_all) | exact cut_ok (by omega) | exact or_ok (idx_ok (by omega)) | (refine or1 (fun hz => pre_ok (by simp at hz; omega) (by omega) (by omega))) | exact pre_ok (by omega) (by omega) (by omega) | (simp_all [idxOk, cutOk, leB]; done) | (simp_all [idxOk, cutOk, leB]; omega) | (simp [idxOk, cutOk, leB] at *; omega) | (have hf0 := h_x0.1; simp only [leB, decide_eq_true_eq, List.length_append, List.length_cons, List.length_nil]; omega)) (StE.bind (Evt.ifh (fun _ => (spec_l2Height_ev ((gt x0 (i0 : Int)).fHeight))) (fun _ => Evt.self _)) (StE.ifh (fun hc3 => (StE.ret _)) (fun hc3 => (StE.chk (by first | exact idx_ok (by omega) | exact idx_ok (by have hq := len_eq (by assumption); omega) | exact idx_found (show (0 : Int) ≤ (i0 : Int) by simp_all) | exact cut_ok (by omega) | exact or_ok (idx_ok (by omega)) | (refine or1 (fun hz => pre_ok (by simp at hz; omega) (by omega) (by omega))) | exact pre_ok (by omega) (by omega) (by omega) | (simp_all [idxOk, cutOk, leB]; done) | (simp_all [idxOk, cutOk, leB]; omega) | (simp [idxOk, cutOk, leB] at *; omega) | (have hf0 := h_x0.1; simp only [leB, decide_eq_true_eq, List.length_append, List.length_cons, List.length_nil]; omega)) (StE.bind (spec_l4Out_ev ((gt x0 (i0 : Int)).fOut) (((h_x0).2 _ (gt_mem (by first | omega | (have hq := len_eq (by assumption); omega) | (have hf0 := h_x0.1; simp only [leB, decide_eq_true_eq, List.length_append, List.length_cons, List.length_nil]; omega)))).2.1)) (StE.ifh (fun hc2 => (StE.ret _)) (fun hc2 => (StE.chk (by first | exact idx_ok (by omega) | exact idx_ok (by have hq := len_eq (by assumption); omega) | exact idx_found (by simp_all) | exact cut_ok (by omega) | exact or_ok (idx_ok (by omega)) | (refine or1 (fun hz => pre_ok (by simp at hz; omega) (by omega) (by omega))) | exact pre_ok (by omega) (by omega) (by omega) | (simp_all [idxOk, cutOk, leB]; done) | (simp_all [idxOk, cutOk, leB]; omega) | (simp [idxOk, cutOk, leB] at *; omega) | (have hf0 := h_x0.1; simp only [leB, decide_eq_true_eq, List.length_append, List.length_cons, List.length_nil]; omega)) (StE.chk (by first | exact idx_ok (by omega) | exact idx_ok (by have hq := len_eq (by assumption); omega) | exact idx_found (by simp_all) | exact cut_ok (by omega) | exact or_ok (idx_ok (by omega)) | (refine or1 (fun hz => pre_ok (by simp at hz; omega) (by omega) (by omega))) | exact pre_ok (by omega) (by omega) (by omega) | (simp_all [idxOk, cutOk, leB]; done) | (simp_all [idxOk, cutOk, leB]; omega) | (simp [idxOk, cutOk, leB] at *; omega) | (have hf0 := h_x0.1; simp only [leB, decide_eq_true_eq, List.length_append, List.length_cons, List.length_nil]; omega)) (StE.bind (Evt.ifh (fun _ => (spec_l4Ahead_ev ((gt x0 (wrap64 ((i0 : Int) - 1))).fRef) ((gt x0 (i0 : Int)).fRef))) (fun _ => Evt.self _)) (StE.ifh (fun hc1 => (StE.ret _)) (fun hc1 => StE.next)))))))))))))))) (fun j hj => by
  simp only [spec_l4Fault.l0_s]
  exact Evt.f (ge_lt hj) (Evt.self _))) (fun _ => rfl) (Evt.self _))))
def spec_l3Among_v (x0 : List Ref) (x1 : Ref) : Bool := (onO ((List.range' 0 (x0.length - 0)).findSome? (fun (i0 : Nat) => (bif ((((gt x0 (i0 : Int)).fTx) == x1.fTx) && (((gt x0 (i0 : Int)).fAt) == x1.fAt)) then (some true) else none))) (fun r => r) false)
theorem spec_l3Among_ev (x0 : List Ref) (x1 : Ref) (h_x0 : (Lm smRef) x0) : Evt (fun k => spec_l3Among.f k x0 x1) (spec_l3Among_v x0 x1) :=
  (Evt.loop (r' := fun r => r) (Evt.srch (L := (fun k i => spec_l3Among.l0 x0 x1 k i)) 0 x0.length (by have := h_x0; first | (have := this.1; omega) | omega) (fun (i0 : Nat) => (bif ((((gt x0 (i0 : Int)).fTx) == x1.fTx) && (((gt x0 (i0 : Int)).fAt) == x1.fAt)) then (some true) else none)) (fun i0 hs2 hi2 => by
  have hbn : x0.length ≤ 9223372036854775807 := (by have := h_x0; first | (have := this.1; omega) | omega)
  simp only [spec_l3Among.l0_s]
  exact Evt_t2 (int_lt hi2) (StE.chk (by first | exact idx_ok (by omega) | exact idx_ok (by have hq := len_eq (by assumption); omega) | exact idx_found (show (0 : Int) ≤ (i0 : Int) by simp_all) | exact cut_ok (by omega) | exact or_ok (idx_ok (by omega)) | (refine or1 (fun hz => pre_ok (by simp at hz; omega) (by omega) (by omega))) | exact pre_ok (by omega) (by omega) (by omega) | (simp_all [idxOk, cutOk, leB]; done) | (simp_all [idxOk, cutOk, leB]; omega) | (simp [idxOk, cutOk, leB] at *; omega) | (have hf0 := h_x0.1; simp only [leB, decide_eq_true_eq, List.length_append, List.length_cons, List.length_nil]; omega)) (StE.ifh (fun hc1 => (StE.ret _)) (fun hc1 => StE.next)))) (fun j hj => by
  simp only [spec_l3Among.l0_s]
  exact Evt.f (ge_lt hj) (Evt.self _))) (fun _ => rfl) (Evt.self _))
def spec_l3Outs_v (x0 : Tx) : Int := (onO ((List.range' 0 (x0.fOuts.length - 0)).findSome? (fun (i0 : Nat) => (bif !(spec_l1In_v ((gt x0.fOuts (i0 : Int)).fValue) 1 1000000) then (some 3) else (bif ((spec_l2Fault_v ((gt x0.fOuts (i0 : Int)).fRule)) != 0) then (some (spec_l2Fault_v ((gt x0.fOuts (i0 : Int)).fRule))) else none)))) (fun r => r) (bif ((x0.fKind == 1) && (decide (((gt x0.fOuts (0 : Int)).fValue) < 100))) then 8 else 0))
theorem spec_l3Outs_ev (x0 : Tx) (h_x0 : smTx x0) (hpre : 0 < x0.fOuts.length) : Evt (fun k => spec_l3Outs.f k x0) (spec_l3Outs_v x0) :=
  (Evt.loop (r' := fun r => r) (Evt.srch (L := (fun k i => spec_l3Outs.l0 x0 k i)) 0 x0.fOuts.length (by have := h_x0.2.2.2; first | (have := this.1; omega) | omega) (fun (i0 : Nat) => (bif !(spec_l1In_v ((gt x0.fOuts (i0 : Int)).fValue) 1 1000000) then (some 3) else (bif ((spec_l2Fault_v ((gt x0.fOuts (i0 : Int)).fRule)) != 0) then (some (spec_l2Fault_v ((gt x0.fOuts (i0 : Int)).fRule))) else none))) (fun i0 hs3 hi3 => by
  have hbn : x0.fOuts.length ≤ 9223372036854775807 := (by have := h_x0.2.2.2; first | (have := this.1; omega) | omega)
  simp only [spec_l3Outs.l0_s]
  exact Evt_t2 (int_lt hi3) (StE.chk (by first | exact idx_ok (by omega) | exact idx_ok (by have hq := len_eq (by assumption); omega) | exact idx_found (show (0 : Int) ≤ (i0 : Int) by simp_all) | exact cut_ok (by omega) | exact or_ok (idx_ok (by omega)) | (refine or1 (fun hz => pre_ok (by simp at hz; omega) (by omega) (by omega))) | exact pre_ok (by omega) (by omega) (by omega) | (simp_all [idxOk, cutOk, leB]; done) | (simp_all [idxOk, cutOk, leB]; omega) | (simp [idxOk, cutOk, leB] at *; omega) | (simp_all [idxOk]; omega) | (simp [idxOk]; omega) | (have hf0 := h_x0.2.2.1.1; have hf1 := h_x0.2.2.2.1; simp only [leB, decide_eq_true_eq, List.length_append, List.length_cons, List.length_nil]; omega)) (StE.bind (spec_l1In_ev ((gt x0.fOuts (i0 : Int)).fValue) 1 1000000) (StE.ifh (fun hc2 => (StE.ret _)) (fun hc2 => (StE.chk (by first | exact idx_ok (by omega) | exact idx_ok (by have hq := len_eq (by assumption); omega) | exact idx_found (show (0 : Int) ≤ (i0 : Int) by simp_all) | exact cut_ok (by omega) | exact or_ok (idx_ok (by omega)) | (refine or1 (fun hz => pre_ok (by simp at hz; omega) (by omega) (by omega))) | exact pre_ok (by omega) (by omega) (by omega) | (simp_all [idxOk, cutOk, leB]; done) | (simp_all [idxOk, cutOk, leB]; omega) | (simp [idxOk, cutOk, leB] at *; omega) | (simp_all [idxOk]; omega) | (simp [idxOk]; omega) | (have hf0 := h_x0.2.2.1.1; have hf1 := h_x0.2.2.2.1; simp only [leB, decide_eq_true_eq, List.length_append, List.length_cons, List.length_nil]; omega)) (StE.bind (spec_l2Fault_ev ((gt x0.fOuts (i0 : Int)).fRule) (((h_x0.2.2.2).2 _ (gt_mem (by first | omega | (have hq := len_eq (by assumption); omega) | (simp_all [idxOk]; omega) | (simp [idxOk]; omega) | (have hf0 := h_x0.2.2.1.1; have hf1 := h_x0.2.2.2.1; simp only [leB, decide_eq_true_eq, List.length_append, List.length_cons, List.length_nil]; omega)))).2)) (StE.ifh (fun hc1 => (StE.ret _)) (fun hc1 => StE.next))))))))) (fun j hj => by
  simp only [spec_l3Outs.l0_s]
  exact Evt.f (ge_lt hj) (Evt.self _))) (fun _ => rfl) (Evt.chk (by first | exact idx_ok (by omega) | exact idx_ok (by have hq := len_eq (by assumption); omega) | exact idx_found (by simp_all) | exact cut_ok (by omega) | exact or_ok (idx_ok (by omega)) | (refine or1 (fun hz => pre_ok (by simp at hz; omega) (by omega) (by omega))) | exact pre_ok (by omega) (by omega) (by omega) | (simp_all [idxOk, cutOk, leB]; done) | (simp_all [idxOk, cutOk, leB]; omega) | (simp [idxOk, cutOk, leB] at *; omega) | (simp_all [idxOk]; omega) | (simp [idxOk]; omega) | (have hf0 := h_x0.2.2.1.1; have hf1 := h_x0.2.2.2.1; simp only [leB, decide_eq_true_eq, List.length_append, List.length_cons, List.length_nil]; omega)) (Evt.ifh (fun hc3 => (Evt.self _)) (fun hc3 => (Evt.self _)))))
def spec_l3Fault_v (x0 : Tx) : Int := (bif ((!(spec_l1In_v x0.fKind 0 2)) || ((x0.fKind == 0) != (x0.fMember == 0))) then 1 else (bif ((x0.fKind != 0) && (!(bif (x0.fKind != 0) then (spec_l1Key_v x0.fMember) else default))) then 3 else (bif ((!(spec_l1In_v (x0.fIns.length : Int) 1 4)) || (!(bif (!(!(spec_l1In_v (x0.fIns.length : Int) 1 4))) then (spec_l1In_v (x0.fOuts.length : Int) 1 4) else default))) then 2 else (onO ((List.range' 0 (x0.fIns.length - 0)).findSome? (fun (i0 : Nat) => (bif !(spec_l3Ref_v (gt x0.fIns (i0 : Int))) then (some 3) else (bif (spec_l3Among_v (x0.fIns.take ((i0 : Int)).toNat) (gt x0.fIns (i0 : Int))) then (some 7) else none)))) (fun r => r) (spec_l3Outs_v x0)))))
theorem spec_l3Fault_ev (x0 : Tx) (h_x0 : smTx x0) : Evt (fun k => spec_l3Fault.f k x0) (spec_l3Fault_v x0) :=
  (Evt.bind (spec_l1In_ev x0.fKind 0 2) (Evt.ifh (fun hc5 => (Evt.self _)) (fun hc5 => (Evt.bind (Evt.ifh (fun _ => (spec_l1Key_ev x0.fMember)) (fun _ => Evt.self _)) (Evt.ifh (fun hc4 => (Evt.self _)) (fun hc4 => (Evt.bind (spec_l1In_ev (x0.fIns.length : Int) 1 4) (Evt.bind (Evt.ifh (fun _ => (spec_l1In_ev (x0.fOuts.length : Int) 1 4)) (fun _ => Evt.self _)) (Evt.ifh (fun hc3 => (Evt.self _)) (fun hc3 => (Evt.loop (r' := fun r => r) (Evt.srch (L := (fun k i => spec_l3Fault.l0 x0 k i)) 0 x0.fIns.length (by have := h_x0.2.2.1; first | (have := this.1; omega) | omega) (fun (i0 : Nat) => (bif !(spec_l3Ref_v (gt x0.fIns (i0 : Int))) then (some 3) else (bif (spec_l3Among_v (x0.fIns.take ((i0 : Int)).toNat) (gt x0.fIns (i0 : Int))) then (some 7) else none))) (fun i0 hs3 hi3 => by
  have hbn : x0.fIns.length ≤ 9223372036854775807 := (by have := h_x0.2.2.1; first | (have := this.1; omega) | omega)
  simp only [spec_l3Fault.l0_s]
  exact Evt_t2 (int_lt hi3) (StE.chk (by first | exact idx_ok (by omega) | exact idx_ok (by have hq := len_eq (by assumption); omega) | exact idx_found (show (0 : Int) ≤ (i0 : Int) by simp_all) | exact cut_ok (by omega) | exact or_ok (idx_ok (by omega)) | (refine or1 (fun hz => pre_ok (by simp at hz; omega) (by omega) (by omega))) | exact pre_ok (by omega) (by omega) (by omega) | (simp_all [idxOk, cutOk, leB]; done) | (simp_all [idxOk, cutOk, leB]; omega) | (simp [idxOk, cutOk, leB] at *; omega) | (simp_all [spec_l1In_v]; omega) | (have hf0 := h_x0.2.2.1.1; have hf1 := h_x0.2.2.2.1; simp only [leB, decide_eq_true_eq, List.length_append, List.length_cons, List.length_nil]; omega)) (StE.bind (spec_l3Ref_ev (gt x0.fIns (i0 : Int))) (StE.ifh (fun hc2 => (StE.ret _)) (fun hc2 => (StE.chk (by first | exact idx_ok (by omega) | exact idx_ok (by have hq := len_eq (by assumption); omega) | exact idx_found (by simp_all) | exact cut_ok (by omega) | exact or_ok (idx_ok (by omega)) | (refine or1 (fun hz => pre_ok (by simp at hz; omega) (by omega) (by omega))) | exact pre_ok (by omega) (by omega) (by omega) | (simp_all [idxOk, cutOk, leB]; done) | (simp_all [idxOk, cutOk, leB]; omega) | (simp [idxOk, cutOk, leB] at *; omega) | (simp_all [spec_l1In_v]; omega) | (have hf0 := h_x0.2.2.1.1; have hf1 := h_x0.2.2.2.1; simp only [leB, decide_eq_true_eq, List.length_append, List.length_cons, List.length_nil]; omega)) (StE.chk (by first | exact idx_ok (by omega) | exact idx_ok (by have hq := len_eq (by assumption); omega) | exact idx_found (show (0 : Int) ≤ (i0 : Int) by simp_all) | exact cut_ok (by omega) | exact or_ok (idx_ok (by omega)) | (refine or1 (fun hz => pre_ok (by simp at hz; omega) (by omega) (by omega))) | exact pre_ok (by omega) (by omega) (by omega) | (simp_all [idxOk, cutOk, leB]; done) | (simp_all [idxOk, cutOk, leB]; omega) | (simp [idxOk, cutOk, leB] at *; omega) | (simp_all [spec_l1In_v]; omega) | (have hf0 := h_x0.2.2.1.1; have hf1 := h_x0.2.2.2.1; simp only [leB, decide_eq_true_eq, List.length_append, List.length_cons, List.length_nil]; omega)) (StE.bind (spec_l3Among_ev (x0.fIns.take ((i0 : Int)).toNat) (gt x0.fIns (i0 : Int)) ((Lm_take h_x0.2.2.1))) (StE.ifh (fun hc1 => (StE.ret _)) (fun hc1 => StE.next)))))))))) (fun j hj => by
  simp only [spec_l3Fault.l0_s]
  exact Evt.f (ge_lt hj) (Evt.self _))) (fun _ => rfl) (Evt.bind (spec_l3Outs_ev x0 (h_x0) (by first | assumption | (simp_all; omega) | (simp_all [spec_l1In_v]; omega) | (have hf0 := h_x0.2.2.1.1; have hf1 := h_x0.2.2.2.1; simp only [leB, decide_eq_true_eq, List.length_append, List.length_cons, List.length_nil]; omega))) (Evt.self _)))))))))))))
def spec_l2Copy_v (x0 : Rule) : Rule := (⟨([] : List Int) ++ x0.fKeys, x0.fNeed, x0.fAfter⟩ : Rule)
theorem spec_l2Copy_ev (x0 : Rule) (h_x0 : smRule x0) : Evt (fun k => spec_l2Copy.f k x0) (spec_l2Copy_v x0) :=
  (Evt.chk (by first | exact idx_ok (by omega) | exact idx_ok (by have hq := len_eq (by assumption); omega) | exact idx_found (by simp_all) | exact cut_ok (by omega) | exact or_ok (idx_ok (by omega)) | (refine or1 (fun hz => pre_ok (by simp at hz; omega) (by omega) (by omega))) | exact pre_ok (by omega) (by omega) (by omega) | (simp_all [idxOk, cutOk, leB]; done) | (simp_all [idxOk, cutOk, leB]; omega) | (simp [idxOk, cutOk, leB] at *; omega) | (have hf0 := h_x0.1.1; simp only [leB, decide_eq_true_eq, List.length_append, List.length_cons, List.length_nil]; omega)) (Evt.self _))
def spec_l4Copy_v (x0 : List Coin) : (List Coin) := ((List.range' 0 (x0.length - 0)).foldl (fun ac1 (i0 : Nat) => ((ac1 ++ ([(⟨(gt x0 (i0 : Int)).fRef, (⟨(gt x0 (i0 : Int)).fOut.fValue, (spec_l2Copy_v ((gt x0 (i0 : Int)).fOut.fRule))⟩ : Out), (gt x0 (i0 : Int)).fHeight, (gt x0 (i0 : Int)).fMined⟩ : Coin)] : List Coin)))) ([] : List Coin))
theorem spec_l4Copy_ev (x0 : List Coin) (h_x0 : (Lm smCoin) x0) : Evt (fun k => spec_l4Copy.f k x0) (spec_l4Copy_v x0) :=
  (Evt.bind (Evt.gatherL (L := (fun k ac i => spec_l4Copy.l0 x0 k ac i)) x0.length (by have := h_x0; first | (have := this.1; omega) | omega) (fun ac1 (i0 : Nat) => ((ac1 ++ ([(⟨(gt x0 (i0 : Int)).fRef, (⟨(gt x0 (i0 : Int)).fOut.fValue, (spec_l2Copy_v ((gt x0 (i0 : Int)).fOut.fRule))⟩ : Out), (gt x0 (i0 : Int)).fHeight, (gt x0 (i0 : Int)).fMined⟩ : Coin)] : List Coin)))) (fun i0 hi1 ac1 hgl => (by first | (simp only [List.length_append, List.length_cons, List.length_nil]; omega) | omega)) (fun i0 hi1 ac1 hgl o hg => by
  have hbn : x0.length ≤ 1048576 := (by have := h_x0; first | (have := this.1; omega) | omega)
  simp only [spec_l4Copy.l0_s]
  exact Evt.t (int_lt hi1) (Evt.chk (by first | (simp only [leB, decide_eq_true_eq, List.length_append, List.length_cons, List.length_nil]; omega) | exact idx_ok (by omega) | exact idx_ok (by have hq := len_eq (by assumption); omega) | exact idx_found (by simp_all) | exact cut_ok (by omega) | exact or_ok (idx_ok (by omega)) | (refine or1 (fun hz => pre_ok (by simp at hz; omega) (by omega) (by omega))) | exact pre_ok (by omega) (by omega) (by omega) | (simp_all [idxOk, cutOk, leB]; done) | (simp_all [idxOk, cutOk, leB]; omega) | (simp [idxOk, cutOk, leB] at *; omega) | (have hf0 := h_x0.1; simp only [leB, decide_eq_true_eq, List.length_append, List.length_cons, List.length_nil]; omega)) (Evt.bind (spec_l2Copy_ev ((gt x0 (i0 : Int)).fOut.fRule) ((((h_x0).2 _ (gt_mem (by first | omega | (have hq := len_eq (by assumption); omega) | (have hf0 := h_x0.1; simp only [leB, decide_eq_true_eq, List.length_append, List.length_cons, List.length_nil]; omega)))).2.1).2)) (Evt.chk (by first | (simp only [leB, decide_eq_true_eq, List.length_append, List.length_cons, List.length_nil]; omega) | exact idx_ok (by omega) | exact idx_ok (by have hq := len_eq (by assumption); omega) | exact idx_found (by simp_all) | exact cut_ok (by omega) | exact or_ok (idx_ok (by omega)) | (refine or1 (fun hz => pre_ok (by simp at hz; omega) (by omega) (by omega))) | exact pre_ok (by omega) (by omega) (by omega) | (simp_all [idxOk, cutOk, leB]; done) | (simp_all [idxOk, cutOk, leB]; omega) | (simp [idxOk, cutOk, leB] at *; omega) | (have hf0 := h_x0.1; simp only [leB, decide_eq_true_eq, List.length_append, List.length_cons, List.length_nil]; omega)) hg)))) (fun j ac hj => by
  simp only [spec_l4Copy.l0_s]
  exact Evt.f (ge_lt hj) (Evt.self _))) (Evt.self _))
theorem l2Copy_id (r : Rule) : spec_l2Copy_v r = r := by simp [spec_l2Copy_v]
theorem l4Copy_id (x0 : List Coin) : spec_l4Copy_v x0 = x0 := by
  have h := range_foldl x0 (fun ac (x : Coin) => ac ++ [(⟨x.fRef, ⟨x.fOut.fValue, spec_l2Copy_v x.fOut.fRule⟩, x.fHeight, x.fMined⟩ : Coin)]) []
  refine Eq.trans h ?_
  rw [fold_map]
  simp only [l2Copy_id]
  simp
def spec_l5Spent_v (x0 : List Coin) (x1 : Tx) : (List Coin) × Bool := ((spec_l4Copy_v ((List.range' 0 (x0.length - 0)).foldl (fun ac1 (i0 : Nat) => (bif (spec_l3Among_v x1.fIns ((gt x0 (i0 : Int)).fRef)) then ((ac1 ++ ([(gt x0 (i0 : Int))] : List Coin))) else (ac1))) ([] : List Coin))), ((((List.range' 0 (x0.length - 0)).foldl (fun ac1 (i0 : Nat) => (bif (spec_l3Among_v x1.fIns ((gt x0 (i0 : Int)).fRef)) then ((ac1 ++ ([(gt x0 (i0 : Int))] : List Coin))) else (ac1))) ([] : List Coin)).length : Int) == (x1.fIns.length : Int)))
theorem spec_l5Spent_ev (x0 : List Coin) (x1 : Tx) (h_x0 : (Lm smCoin) x0) (h_x1 : smTx x1) : Evt (fun k => spec_l5Spent.f k x0 x1) (spec_l5Spent_v x0 x1) :=
  (Evt.bind (Evt.gatherL (L := (fun k ac i => spec_l5Spent.l0 x0 x1 k ac i)) x0.length (by have := h_x0; first | (have := this.1; omega) | omega) (fun ac1 (i0 : Nat) => (bif (spec_l3Among_v x1.fIns ((gt x0 (i0 : Int)).fRef)) then ((ac1 ++ ([(gt x0 (i0 : Int))] : List Coin))) else (ac1))) (fun i0 hi2 ac1 hgl => (len_bif (by first | (simp only [List.length_append, List.length_cons, List.length_nil]; omega) | omega) (by first | (simp only [List.length_append, List.length_cons, List.length_nil]; omega) | omega))) (fun i0 hi2 ac1 hgl o hg => by
  have hbn : x0.length ≤ 1048576 := (by have := h_x0; first | (have := this.1; omega) | omega)
  simp only [spec_l5Spent.l0_s]
  exact Evt.t (int_lt hi2) (Evt.chk (by first | (simp only [leB, decide_eq_true_eq, List.length_append, List.length_cons, List.length_nil]; omega) | exact idx_ok (by omega) | exact idx_ok (by have hq := len_eq (by assumption); omega) | exact idx_found (by simp_all) | exact cut_ok (by omega) | exact or_ok (idx_ok (by omega)) | (refine or1 (fun hz => pre_ok (by simp at hz; omega) (by omega) (by omega))) | exact pre_ok (by omega) (by omega) (by omega) | (simp_all [idxOk, cutOk, leB]; done) | (simp_all [idxOk, cutOk, leB]; omega) | (simp [idxOk, cutOk, leB] at *; omega) | (have hf0 := h_x0.1; have hf1 := h_x1.2.2.1.1; have hf2 := h_x1.2.2.2.1; simp only [leB, decide_eq_true_eq, List.length_append, List.length_cons, List.length_nil]; omega)) (Evt.bind (spec_l3Among_ev x1.fIns ((gt x0 (i0 : Int)).fRef) (h_x1.2.2.1)) (Evt.cases (fun hc1 => (by rw [hc1] at hg; exact (Evt.chk (by first | (simp only [leB, decide_eq_true_eq, List.length_append, List.length_cons, List.length_nil]; omega) | exact idx_ok (by omega) | exact idx_ok (by have hq := len_eq (by assumption); omega) | exact idx_found (by simp_all) | exact cut_ok (by omega) | exact or_ok (idx_ok (by omega)) | (refine or1 (fun hz => pre_ok (by simp at hz; omega) (by omega) (by omega))) | exact pre_ok (by omega) (by omega) (by omega) | (simp_all [idxOk, cutOk, leB]; done) | (simp_all [idxOk, cutOk, leB]; omega) | (simp [idxOk, cutOk, leB] at *; omega) | (have hf0 := h_x0.1; have hf1 := h_x1.2.2.1.1; have hf2 := h_x1.2.2.2.1; simp only [leB, decide_eq_true_eq, List.length_append, List.length_cons, List.length_nil]; omega)) (Evt.chk (by first | (simp only [leB, decide_eq_true_eq, List.length_append, List.length_cons, List.length_nil]; omega) | exact idx_ok (by omega) | exact idx_ok (by have hq := len_eq (by assumption); omega) | exact idx_found (by simp_all) | exact cut_ok (by omega) | exact or_ok (idx_ok (by omega)) | (refine or1 (fun hz => pre_ok (by simp at hz; omega) (by omega) (by omega))) | exact pre_ok (by omega) (by omega) (by omega) | (simp_all [idxOk, cutOk, leB]; done) | (simp_all [idxOk, cutOk, leB]; omega) | (simp [idxOk, cutOk, leB] at *; omega) | (have hf0 := h_x0.1; have hf1 := h_x1.2.2.1.1; have hf2 := h_x1.2.2.2.1; simp only [leB, decide_eq_true_eq, List.length_append, List.length_cons, List.length_nil]; omega)) hg)))) (fun hc1 => (by rw [hc1] at hg; exact hg)))))) (fun j ac hj => by
  simp only [spec_l5Spent.l0_s]
  exact Evt.f (ge_lt hj) (Evt.self _))) (Evt.bind (spec_l4Copy_ev ((List.range' 0 (x0.length - 0)).foldl (fun ac1 (i0 : Nat) => (bif (spec_l3Among_v x1.fIns ((gt x0 (i0 : Int)).fRef)) then ((ac1 ++ ([(gt x0 (i0 : Int))] : List Coin))) else (ac1))) ([] : List Coin)) ((Lm_gath x0 h_x0 _))) (Evt.self _)))
def spec_SpentBy_v (x0 : List Coin) (x1 : Tx) : CoinsResult := (bif ((spec_l4Fault_v x0) != 0) then (⟨(spec_l4Fault_v x0), ([] : List Coin)⟩ : CoinsResult) else (bif ((spec_l3Fault_v x1) != 0) then (⟨(spec_l3Fault_v x1), ([] : List Coin)⟩ : CoinsResult) else (bif !(spec_l5Spent_v x0 x1).2 then (⟨4, ([] : List Coin)⟩ : CoinsResult) else (⟨0, (spec_l5Spent_v x0 x1).1⟩ : CoinsResult))))
theorem spec_SpentBy_ev (x0 : List Coin) (x1 : Tx) (h_x0 : (Lm smCoin) x0) (h_x1 : smTx x1) : Evt (fun k => spec_SpentBy.f k x0 x1) (spec_SpentBy_v x0 x1) :=
  (Evt.bind (spec_l4Fault_ev x0 (h_x0)) (Evt.ifh (fun hc2 => (Evt.self _)) (fun hc2 => (Evt.bind (spec_l3Fault_ev x1 (h_x1)) (Evt.ifh (fun hc1 => (Evt.self _)) (fun hc1 => (Evt.bind (spec_l5Spent_ev x0 x1 (h_x0) (h_x1)) (Evt.ifh (fun hc0 => (Evt.self _)) (fun hc0 => (Evt.self _))))))))))
def spec_l4Of_v (x0 : List Coin) (x1 : Int) : Bool := (onO ((List.range' 0 (x0.length - 0)).findSome? (fun (i0 : Nat) => (bif (((gt x0 (i0 : Int)).fRef.fTx) == x1) then (some true) else none))) (fun r => r) false)
theorem spec_l4Of_ev (x0 : List Coin) (x1 : Int) (h_x0 : (Lm smCoin) x0) : Evt (fun k => spec_l4Of.f k x0 x1) (spec_l4Of_v x0 x1) :=
  (Evt.loop (r' := fun r => r) (Evt.srch (L := (fun k i => spec_l4Of.l0 x0 x1 k i)) 0 x0.length (by have := h_x0; first | (have := this.1; omega) | omega) (fun (i0 : Nat) => (bif (((gt x0 (i0 : Int)).fRef.fTx) == x1) then (some true) else none)) (fun i0 hs2 hi2 => by
  have hbn : x0.length ≤ 9223372036854775807 := (by have := h_x0; first | (have := this.1; omega) | omega)
  simp only [spec_l4Of.l0_s]
  exact Evt_t2 (int_lt hi2) (StE.chk (by first | exact idx_ok (by omega) | exact idx_ok (by have hq := len_eq (by assumption); omega) | exact idx_found (show (0 : Int) ≤ (i0 : Int) by simp_all) | exact cut_ok (by omega) | exact or_ok (idx_ok (by omega)) | (refine or1 (fun hz => pre_ok (by simp at hz; omega) (by omega) (by omega))) | exact pre_ok (by omega) (by omega) (by omega) | (simp_all [idxOk, cutOk, leB]; done) | (simp_all [idxOk, cutOk, leB]; omega) | (simp [idxOk, cutOk, leB] at *; omega) | (have hf0 := h_x0.1; simp only [leB, decide_eq_true_eq, List.length_append, List.length_cons, List.length_nil]; omega)) (StE.ifh (fun hc1 => (StE.ret _)) (fun hc1 => StE.next)))) (fun j hj => by
  simp only [spec_l4Of.l0_s]
  exact Evt.f (ge_lt hj) (Evt.self _))) (fun _ => rfl) (Evt.self _))
def spec_l4At_v (x0 : List Coin) (x1 : Ref) : Int := (onO ((List.range' 0 (x0.length - 0)).findSome? (fun (i0 : Nat) => (bif ((((gt x0 (i0 : Int)).fRef.fTx) == x1.fTx) && (((gt x0 (i0 : Int)).fRef.fAt) == x1.fAt)) then (some (i0 : Int)) else none))) (fun r => r) (-1))
theorem spec_l4At_ev (x0 : List Coin) (x1 : Ref) (h_x0 : (Lm smCoin) x0) : Evt (fun k => spec_l4At.f k x0 x1) (spec_l4At_v x0 x1) :=
  (Evt.loop (r' := fun r => r) (Evt.srch (L := (fun k i => spec_l4At.l0 x0 x1 k i)) 0 x0.length (by have := h_x0; first | (have := this.1; omega) | omega) (fun (i0 : Nat) => (bif ((((gt x0 (i0 : Int)).fRef.fTx) == x1.fTx) && (((gt x0 (i0 : Int)).fRef.fAt) == x1.fAt)) then (some (i0 : Int)) else none)) (fun i0 hs2 hi2 => by
  have hbn : x0.length ≤ 9223372036854775807 := (by have := h_x0; first | (have := this.1; omega) | omega)
  simp only [spec_l4At.l0_s]
  exact Evt_t2 (int_lt hi2) (StE.chk (by first | exact idx_ok (by omega) | exact idx_ok (by have hq := len_eq (by assumption); omega) | exact idx_found (show (0 : Int) ≤ (i0 : Int) by simp_all) | exact cut_ok (by omega) | exact or_ok (idx_ok (by omega)) | (refine or1 (fun hz => pre_ok (by simp at hz; omega) (by omega) (by omega))) | exact pre_ok (by omega) (by omega) (by omega) | (simp_all [idxOk, cutOk, leB]; done) | (simp_all [idxOk, cutOk, leB]; omega) | (simp [idxOk, cutOk, leB] at *; omega) | (have hf0 := h_x0.1; simp only [leB, decide_eq_true_eq, List.length_append, List.length_cons, List.length_nil]; omega)) (StE.ifh (fun hc1 => (StE.ret _)) (fun hc1 => StE.next)))) (fun j hj => by
  simp only [spec_l4At.l0_s]
  exact Evt.f (ge_lt hj) (Evt.self _))) (fun _ => rfl) (Evt.self _))
def takeG1 (out : List Coin) (r : Ref) : Option (List Coin) := bif decide (spec_l4At_v out r < 0) then none else some (out.take (spec_l4At_v out r).toNat ++ out.drop (wrap64 (spec_l4At_v out r + 1)).toNat)
theorem l4At_in (out : List Coin) (r : Ref) (h : decide (spec_l4At_v out r < 0) = false) : idxOk (spec_l4At_v out r) out.length = true := by
  have h0 : (0 : Int) ≤ spec_l4At_v out r := by simpa using h
  exact idx_found (show (0 : Int) ≤ spec_l4At_v out r from h0)
theorem takeG1_pres (s : List Coin) (r : Ref) (t : List Coin) (hs : Lm smCoin s) (h : takeG1 s r = some t) : t.Sublist s := by
  unfold takeG1 at h
  cases hc : decide (spec_l4At_v s r < 0)
  · rw [hc] at h
    have h2 : s.take (spec_l4At_v s r).toNat ++ s.drop (wrap64 (spec_l4At_v s r + 1)).toNat = t := Option.some.inj h
    subst h2
    have h3 := l4At_in s r hc
    exact cut_sub s (cut_hi (cut_self h3 hs.1))
  · rw [hc] at h; cases h
def spec_l4Take_v (x0 : List Coin) (x1 : List Ref) : (List Coin) × Bool := match stepAll takeG1 (spec_l4Copy_v x0) x1 with
  | some t => (t, true)
  | none => ([], false)
theorem spec_l4Take_ev (x0 : List Coin) (x1 : List Ref) (h_x0 : Lm smCoin x0) (h_x1 : Lm smRef x1) : Evt (fun k => spec_l4Take.f k x0 x1) (spec_l4Take_v x0 x1) := by
  have hn := h_x1.1
  refine Evt.bind (spec_l4Copy_ev x0 h_x0) (Evt.bind (Evt.steps (L := fun k s i => spec_l4Take.l0 x1 k s i) x1 (by omega) (Lm smCoin) takeG1 (([] : List Coin), false) (fun i hi s hs o hsome hnone => ?_) (fun s r t hs h => Lm_sub hs (takeG1_pres s r t hs h)) (fun s => ?_) (spec_l4Copy_v x0) (by rw [l4Copy_id]; exact h_x0)) ?_)
  · simp only [spec_l4Take.l0_s]
    refine Evt.t (int_lt hi) (Evt.chk (idx_ok hi) (Evt.bind (spec_l4At_ev s _ hs) (Evt.cases (fun hc => ?_) (fun hc => ?_))))
    · exact Evt.ret (hnone (by unfold takeG1; rw [hc]; rfl)).symm
    · have h3 := l4At_in s _ hc
      have h4 := cut_next h3 hs.1
      have h5 := cut_self h3 hs.1
      have h6 := idx_lo h3
      have h7 := idx_hi h3
      have h8 := cut_hi h5
      have h9 := cut_hi h4
      have hl := hs.1
      refine Evt.chk ?_ (Evt.chk h4 (Evt.chk ?_ (Evt.chk ?_ (Evt.chk (decide_eq_true h8) (hsome _ (by unfold takeG1; rw [hc]; rfl))))))
      · unfold cutOk; simp; omega
      · exact decide_eq_true (by omega)
      · exact decide_eq_true (by omega)
  · simp only [spec_l4Take.l0_s]
    exact Evt.f int_nlt (Evt.self _)
  · unfold spec_l4Take_v
    cases stepAll takeG1 (spec_l4Copy_v x0) x1 with
    | some t => exact Evt.self _
    | none => exact Evt.self _
def addN (l : List Coin) (r : Ref) : Nat := (l.takeWhile fun c => spec_l4Ahead_v c.fRef r).length
def spec_l4Add_v (l : List Coin) (x : Coin) : List Coin := l.take (addN l x.fRef) ++ [x] ++ l.drop (addN l x.fRef)
theorem addN_le (l : List Coin) (r : Ref) : addN l r ≤ l.length := (List.takeWhile_sublist _).length_le
theorem l4Add_loop (x0 : List Coin) (x1 : Coin) (hn : x0.length ≤ 100000000) : ∀ (suf pre : List Coin), x0 = pre ++ suf → Evt (fun k => spec_l4Add.l0 x0 x1 k (pre.length : Int)) ((pre.length + addN suf x1.fRef : Nat) : Int)
  | [], pre, h => by
    have hl : x0.length = pre.length := by rw [h]; simp
    have e : decide ((pre.length : Int) < (x0.length : Int)) = false := ge_lt (by omega)
    refine Evt.s ?_
    simp only [spec_l4Add.l0_s, e]
    exact Evt.chk rfl (Evt.bind (Evt.f rfl (Evt.self _)) (Evt.f rfl (Evt.self _)))
  | c :: suf, pre, h => by
    have hl : x0.length = pre.length + (suf.length + 1) := by rw [h]; simp
    have hlt : pre.length < x0.length := by omega
    have hg : gt x0 (pre.length : Int) = c := by
      rw [gt_eq (by simpa using hlt)]
      simp only [Int.toNat_natCast, h]
      rw [List.getElem_append_right (Nat.le_refl _)]
      simp
    refine Evt.s ?_
    simp only [spec_l4Add.l0_s, hg, int_lt hlt]
    refine Evt.chk (or_ok (idx_ok hlt)) (Evt.bind (Evt.t rfl (spec_l4Ahead_ev c.fRef x1.fRef)) ?_)
    cases hc : spec_l4Ahead_v c.fRef x1.fRef
    · refine Evt.f rfl (Evt.ret ?_)
      unfold addN
      rw [List.takeWhile_cons, hc]; simp
    · refine Evt.t rfl ?_
      rw [w64 hlt (by omega)]
      have := l4Add_loop x0 x1 hn suf (pre ++ [c]) (by rw [h]; simp)
      rw [List.length_append, List.length_cons, List.length_nil] at this
      refine this.to ?_
      unfold addN
      rw [List.takeWhile_cons, hc]
      simp only [if_true, List.length_cons]
      congr 1; omega
theorem l4Add_ev (x0 : List Coin) (x1 : Coin) (hn : x0.length ≤ 100000000) : Evt (fun k => spec_l4Add.f k x0 x1) (spec_l4Add_v x0 x1) := by
  have h := l4Add_loop x0 x1 hn x0 [] rfl
  simp only [List.length_nil, Nat.zero_add] at h
  have hle := addN_le x0 x1.fRef
  refine Evt.bind h (Evt.chk (cut_ok hle) (Evt.chk (leB_of (by simp; omega)) (Evt.chk (cut_ok hle) (Evt.chk (leB_of (by simp; omega)) (Evt.chk (leB_of (by simp; omega)) (Evt.chk (decide_eq_true (Nat.le_refl _)) (Evt.ret ?_)))))))
  unfold spec_l4Add_v
  simp only [Int.toNat_natCast]
theorem l4Add_nil (x : Coin) : spec_l4Add_v [] x = [x] := rfl
theorem l4Add_cons (c : Coin) (l : List Coin) (x : Coin) : spec_l4Add_v (c :: l) x = if spec_l4Ahead_v c.fRef x.fRef = true then c :: spec_l4Add_v l x else x :: c :: l := by
  unfold spec_l4Add_v addN
  rw [List.takeWhile_cons]
  by_cases h : spec_l4Ahead_v c.fRef x.fRef = true
  · rw [if_pos h, if_pos h]; simp
  · rw [if_neg h, if_neg h]; simp
theorem l4Add_perm (x : Coin) : ∀ l : List Coin, (spec_l4Add_v l x).Perm (l ++ [x])
  | [] => .refl _
  | c :: l => by
    rw [l4Add_cons]
    split
    · exact (l4Add_perm x l).cons c
    · exact (List.perm_append_singleton x (c :: l)).symm
def newAt (x1 x3 : Int) (x4 : Bool) (x2 : List Out) (i : Nat) : Coin := ⟨⟨x1, (i : Int)⟩, gt x2 (i : Int), x3, x4⟩
def news (x1 x3 : Int) (x4 : Bool) (x2 : List Out) : List Coin := (List.range' 0 x2.length).map (newAt x1 x3 x4 x2)
def spec_l4Put_v (x0 : List Coin) (x1 : Int) (x2 : List Out) (x3 : Int) (x4 : Bool) : List Coin := (List.range' 0 x2.length).foldl (fun ac i => spec_l4Add_v ac (newAt x1 x3 x4 x2 i)) x0
theorem l4Add_len (l : List Coin) (x : Coin) : (spec_l4Add_v l x).length = l.length + 1 := by rw [(l4Add_perm x l).length_eq]; simp
theorem l4Put_loop (x1 x3 : Int) (x4 : Bool) (x2 : List Out) (h_x2 : Lm smOut x2) : ∀ (d i : Nat) (ac : List Coin), i + d = x2.length → ac.length + d ≤ 10000000 → Evt (fun k => spec_l4Put.l0 x1 x2 x3 x4 k ac (i : Int)) ((List.range' i d).foldl (fun ac i => spec_l4Add_v ac (newAt x1 x3 x4 x2 i)) ac)
  | 0, i, ac, hi, ha => by
    refine Evt.s ?_
    simp only [spec_l4Put.l0_s]
    exact Evt.f (ge_lt (by omega)) (Evt.self _)
  | d + 1, i, ac, hi, ha => by
    have hlt : i < x2.length := by omega
    have hn := h_x2.1
    have hm := (h_x2.2 _ (gt_mem hlt)).2
    refine Evt.s ?_
    simp only [spec_l4Put.l0_s]
    refine Evt.t (int_lt hlt) (Evt.chk (idx_ok hlt) (Evt.chk (idx_ok hlt) (Evt.bind (spec_l2Copy_ev _ hm) (Evt.bind (l4Add_ev _ _ (by omega)) ?_))))
    rw [w64 hlt (by omega), l2Copy_id]
    rw [List.range'_succ, List.foldl_cons]
    exact l4Put_loop x1 x3 x4 x2 h_x2 d (i + 1) _ (by omega) (by rw [l4Add_len]; omega)
theorem spec_l4Put_ev (x0 : List Coin) (x1 : Int) (x2 : List Out) (x3 : Int) (x4 : Bool) (h_x0 : Lm smCoin x0) (h_x2 : Lm smOut x2) : Evt (fun k => spec_l4Put.f k x0 x1 x2 x3 x4) (spec_l4Put_v x0 x1 x2 x3 x4) := by
  have h1 := h_x0.1
  have h2 := h_x2.1
  have e := spec_l4Copy_ev x0 h_x0
  rw [l4Copy_id] at e
  exact Evt.bind e (Evt.bind (l4Put_loop x1 x3 x4 x2 h_x2 x2.length 0 x0 (by omega) (by omega)) (Evt.self _))
theorem l4Put_perm (x1 x3 : Int) (x4 : Bool) (x2 : List Out) : ∀ (is : List Nat) (ac : List Coin), (is.foldl (fun ac i => spec_l4Add_v ac (newAt x1 x3 x4 x2 i)) ac).Perm (ac ++ is.map (newAt x1 x3 x4 x2))
  | [], ac => by simp
  | i :: is, ac => by
    rw [List.foldl_cons, List.map_cons]
    refine (l4Put_perm x1 x3 x4 x2 is _).trans ?_
    have := (l4Add_perm (newAt x1 x3 x4 x2 i) ac).append_right (is.map (newAt x1 x3 x4 x2))
    simpa using this
def spec_PutCoins_v (x0 : List Coin) (x1 : Int) (x2 : List Out) (x3 : Int) (x4 : Bool) : CoinsResult := (bif ((spec_l4Fault_v x0) != 0) then (⟨(spec_l4Fault_v x0), ([] : List Coin)⟩ : CoinsResult) else (bif ((!(spec_l1In_v x1 1 60)) || (!(bif (!(!(spec_l1In_v x1 1 60))) then (spec_l2Height_v x3) else default))) then (⟨3, ([] : List Coin)⟩ : CoinsResult) else (bif (decide (4 < (x2.length : Int))) then (⟨2, ([] : List Coin)⟩ : CoinsResult) else (onO ((List.range' 0 (x2.length - 0)).findSome? (fun (i0 : Nat) => (bif ((spec_l4Out_v (gt x2 (i0 : Int))) != 0) then (some (⟨(spec_l4Out_v (gt x2 (i0 : Int))), ([] : List Coin)⟩ : CoinsResult)) else none))) (fun r => r) (bif (spec_l4Of_v x0 x1) then (⟨7, ([] : List Coin)⟩ : CoinsResult) else (bif (decide (40 < (wrap64 ((x0.length : Int) + (x2.length : Int))))) then (⟨2, ([] : List Coin)⟩ : CoinsResult) else (⟨0, (spec_l4Put_v x0 x1 x2 x3 x4)⟩ : CoinsResult)))))))
theorem spec_PutCoins_ev (x0 : List Coin) (x1 : Int) (x2 : List Out) (x3 : Int) (x4 : Bool) (h_x0 : (Lm smCoin) x0) (h_x2 : (Lm smOut) x2) : Evt (fun k => spec_PutCoins.f k x0 x1 x2 x3 x4) (spec_PutCoins_v x0 x1 x2 x3 x4) :=
  (Evt.bind (spec_l4Fault_ev x0 (h_x0)) (Evt.ifh (fun hc6 => (Evt.self _)) (fun hc6 => (Evt.bind (spec_l1In_ev x1 1 60) (Evt.bind (Evt.ifh (fun _ => (spec_l2Height_ev x3)) (fun _ => Evt.self _)) (Evt.ifh (fun hc5 => (Evt.self _)) (fun hc5 => (Evt.ifh (fun hc4 => (Evt.self _)) (fun hc4 => (Evt.loop (r' := fun r => r) (Evt.srch (L := (fun k i => spec_PutCoins.l0 x2 k i)) 0 x2.length (by have := h_x2; first | (have := this.1; omega) | omega) (fun (i0 : Nat) => (bif ((spec_l4Out_v (gt x2 (i0 : Int))) != 0) then (some (⟨(spec_l4Out_v (gt x2 (i0 : Int))), ([] : List Coin)⟩ : CoinsResult)) else none)) (fun i0 hs2 hi2 => by
  have hbn : x2.length ≤ 9223372036854775807 := (by have := h_x2; first | (have := this.1; omega) | omega)
  simp only [spec_PutCoins.l0_s]
  exact Evt_t2 (int_lt hi2) (StE.chk (by first | exact idx_ok (by omega) | exact idx_ok (by have hq := len_eq (by assumption); omega) | exact idx_found (show (0 : Int) ≤ (i0 : Int) by simp_all) | exact cut_ok (by omega) | exact or_ok (idx_ok (by omega)) | (refine or1 (fun hz => pre_ok (by simp at hz; omega) (by omega) (by omega))) | exact pre_ok (by omega) (by omega) (by omega) | (simp_all [idxOk, cutOk, leB]; done) | (simp_all [idxOk, cutOk, leB]; omega) | (simp [idxOk, cutOk, leB] at *; omega) | (have hf0 := h_x0.1; have hf1 := h_x2.1; simp only [leB, decide_eq_true_eq, List.length_append, List.length_cons, List.length_nil]; omega)) (StE.bind (spec_l4Out_ev (gt x2 (i0 : Int)) ((h_x2).2 _ (gt_mem (by first | omega | (have hq := len_eq (by assumption); omega) | (have hf0 := h_x0.1; have hf1 := h_x2.1; simp only [leB, decide_eq_true_eq, List.length_append, List.length_cons, List.length_nil]; omega))))) (StE.ifh (fun hc1 => (StE.ret _)) (fun hc1 => StE.next))))) (fun j hj => by
  simp only [spec_PutCoins.l0_s]
  exact Evt.f (ge_lt hj) (Evt.self _))) (fun _ => rfl) (Evt.bind (spec_l4Of_ev x0 x1 (h_x0)) (Evt.ifh (fun hc3 => (Evt.self _)) (fun hc3 => (Evt.ifh (fun hc2 => (Evt.self _)) (fun hc2 => (Evt.bind (spec_l4Put_ev x0 x1 x2 x3 x4 (h_x0) (h_x2)) (Evt.self _)))))))))))))))))
theorem l4Take_sub (x0 : List Coin) (rs : List Ref) (h0 : Lm smCoin x0) : Lm smCoin (spec_l4Take_v x0 rs).1 := by
  unfold spec_l4Take_v
  cases hs : stepAll takeG1 (spec_l4Copy_v x0) rs with
  | none => exact ⟨by simp, fun x hx => by cases hx⟩
  | some t => exact stepAll_pres (I := Lm smCoin) (fun s r t hs h => Lm_sub hs (takeG1_pres s r t hs h)) rs _ t (by rw [l4Copy_id]; exact h0) hs
def spec_SpendTx_v (x0 : List Coin) (x1 : Tx) (x2 x3 : Int) : CoinsResult := bif ((spec_SpentBy_v x0 x1).fCode != 0) then spec_SpentBy_v x0 x1 else bif spec_l4Of_v x0 x2 then ⟨7, []⟩ else spec_PutCoins_v (spec_l4Take_v x0 x1.fIns).1 x2 x1.fOuts x3 false
theorem spec_SpendTx_ev (x0 : List Coin) (x1 : Tx) (x2 x3 : Int) (h_x0 : Lm smCoin x0) (h_x1 : smTx x1) : Evt (fun k => spec_SpendTx.f k x0 x1 x2 x3) (spec_SpendTx_v x0 x1 x2 x3) := by
  refine Evt.bind (spec_SpentBy_ev x0 x1 h_x0 h_x1) (Evt.ifh (fun _ => Evt.self _) (fun _ => Evt.bind (spec_l4Of_ev x0 x2 h_x0) (Evt.ifh (fun _ => Evt.self _) (fun _ => ?_))))
  exact Evt.bind (spec_l4Take_ev x0 x1.fIns h_x0 h_x1.2.2.1) (Evt.bind (spec_PutCoins_ev _ x2 x1.fOuts x3 false (l4Take_sub x0 x1.fIns h_x0) h_x1.2.2.2) (Evt.self _))
def impl_within_v (x0 : Int) (x1 : Int) (x2 : Int) : Bool := ((decide (x1 ≤ x0)) && (decide (x0 ≤ x2)))
theorem impl_within_ev (x0 : Int) (x1 : Int) (x2 : Int)  : Evt (fun k => impl_within.f k x0 x1 x2) (impl_within_v x0 x1 x2) :=
  (Evt.self _)
def impl_isId_v (x0 : Int) : Bool := (impl_within_v x0 1 60)
theorem impl_isId_ev (x0 : Int)  : Evt (fun k => impl_isId.f k x0) (impl_isId_v x0) :=
  (Evt.bind (impl_within_ev x0 1 60) (Evt.self _))
def impl_isRef_v (x0 : Ref) : Bool := ((impl_isId_v x0.fTx) && (bif (impl_isId_v x0.fTx) then (impl_within_v x0.fAt 0 3) else default))
theorem impl_isRef_ev (x0 : Ref)  : Evt (fun k => impl_isRef.f k x0) (impl_isRef_v x0) :=
  (Evt.bind (impl_isId_ev x0.fTx) (Evt.bind (Evt.ifh (fun _ => (impl_within_ev x0.fAt 0 3)) (fun _ => Evt.self _)) (Evt.self _)))
def impl_isHeight_v (x0 : Int) : Bool := (impl_within_v x0 0 999)
theorem impl_isHeight_ev (x0 : Int)  : Evt (fun k => impl_isHeight.f k x0) (impl_isHeight_v x0) :=
  (Evt.bind (impl_within_ev x0 0 999) (Evt.self _))
def impl_isKey_v (x0 : Int) : Bool := (impl_within_v x0 1 999)
theorem impl_isKey_ev (x0 : Int)  : Evt (fun k => impl_isKey.f k x0) (impl_isKey_v x0) :=
  (Evt.bind (impl_within_ev x0 1 999) (Evt.self _))
def impl_areKeys_1_v (x0 : Int) : Bool := (!(impl_isKey_v x0))
theorem impl_areKeys_1_ev (x0 : Int)  : Evt (fun k => impl_areKeys_1.f k x0) (impl_areKeys_1_v x0) :=
  (Evt.bind (impl_isKey_ev x0) (Evt.self _))
def slices_IndexFunc_int64_v (x0 : List Int) : Int := (onO ((List.range' 0 (x0.length - 0)).findSome? (fun (i0 : Nat) => (bif (impl_areKeys_1_v (gt x0 (i0 : Int))) then (some (i0 : Int)) else none))) (fun r => r) (-1))
theorem slices_IndexFunc_int64_ev (x0 : List Int) (h_x0 : (Lm tr) x0) : Evt (fun k => slices_IndexFunc_int64.f k x0) (slices_IndexFunc_int64_v x0) :=
  (Evt.loop (r' := fun r => r) (Evt.srch (L := (fun k i => slices_IndexFunc_int64.l0 x0 k i)) 0 x0.length (by have := h_x0; first | (have := this.1; omega) | omega) (fun (i0 : Nat) => (bif (impl_areKeys_1_v (gt x0 (i0 : Int))) then (some (i0 : Int)) else none)) (fun i0 hs2 hi2 => by
  have hbn : x0.length ≤ 9223372036854775807 := (by have := h_x0; first | (have := this.1; omega) | omega)
  simp only [slices_IndexFunc_int64.l0_s]
  exact Evt_t2 (int_lt hi2) (StE.chk (by first | exact idx_ok (by omega) | exact idx_ok (by have hq := len_eq (by assumption); omega) | exact idx_found (show (0 : Int) ≤ (i0 : Int) by simp_all) | exact cut_ok (by omega) | exact or_ok (idx_ok (by omega)) | (refine or1 (fun hz => pre_ok (by simp at hz; omega) (by omega) (by omega))) | exact pre_ok (by omega) (by omega) (by omega) | (simp_all [idxOk, cutOk, leB]; done) | (simp_all [idxOk, cutOk, leB]; omega) | (simp [idxOk, cutOk, leB] at *; omega) | (have hf0 := h_x0.1; simp only [leB, decide_eq_true_eq, List.length_append, List.length_cons, List.length_nil]; omega)) (StE.bind (impl_areKeys_1_ev (gt x0 (i0 : Int))) (StE.ifh (fun hc1 => (StE.ret _)) (fun hc1 => StE.next))))) (fun j hj => by
  simp only [slices_IndexFunc_int64.l0_s]
  exact Evt.f (ge_lt hj) (Evt.self _))) (fun _ => rfl) (Evt.self _))
def slices_ContainsFunc_int64_v (x0 : List Int) : Bool := (decide (0 ≤ (slices_IndexFunc_int64_v x0)))
theorem slices_ContainsFunc_int64_ev (x0 : List Int) (h_x0 : (Lm tr) x0) : Evt (fun k => slices_ContainsFunc_int64.f k x0) (slices_ContainsFunc_int64_v x0) :=
  (Evt.bind (slices_IndexFunc_int64_ev x0 (h_x0)) (Evt.self _))
theorem slices_ContainsFunc_int64_any (x0 : List Int) : slices_ContainsFunc_int64_v x0 = (List.range' 0 (x0.length - 0)).any (fun (i0 : Nat) => (impl_areKeys_1_v (gt x0 (i0 : Int)))) := idx_any _ _
def impl_areKeys_v (x0 : List Int) : Bool := (!(slices_ContainsFunc_int64_v x0))
theorem impl_areKeys_ev (x0 : List Int) (h_x0 : (Lm tr) x0) : Evt (fun k => impl_areKeys.f k x0) (impl_areKeys_v x0) :=
  (Evt.bind (slices_ContainsFunc_int64_ev x0 (h_x0)) (Evt.self _))
def impl_isRising_v (x0 : List Int) : Bool := (onO ((List.range' 1 (x0.length - 1)).findSome? (fun (i0 : Nat) => (bif (decide ((gt x0 (i0 : Int)) ≤ (gt x0 (wrap64 ((i0 : Int) - 1))))) then (some false) else none))) (fun r => r) true)
theorem impl_isRising_ev (x0 : List Int) (h_x0 : (Lm tr) x0) : Evt (fun k => impl_isRising.f k x0) (impl_isRising_v x0) :=
  (Evt.loop (r' := fun r => r) (Evt.srch (L := (fun k i => impl_isRising.l0 x0 k i)) 1 x0.length (by have := h_x0; first | (have := this.1; omega) | omega) (fun (i0 : Nat) => (bif (decide ((gt x0 (i0 : Int)) ≤ (gt x0 (wrap64 ((i0 : Int) - 1))))) then (some false) else none)) (fun i0 hs2 hi2 => by
  have hbn : x0.length ≤ 9223372036854775807 := (by have := h_x0; first | (have := this.1; omega) | omega)
  simp only [impl_isRising.l0_s]
  exact Evt_t2 (int_lt hi2) (StE.chk (by first | exact idx_ok (by omega) | exact idx_ok (by have hq := len_eq (by assumption); omega) | exact idx_found (show (0 : Int) ≤ (i0 : Int) by simp_all) | exact cut_ok (by omega) | exact or_ok (idx_ok (by omega)) | (refine or1 (fun hz => pre_ok (by simp at hz; omega) (by omega) (by omega))) | exact pre_ok (by omega) (by omega) (by omega) | (simp_all [idxOk, cutOk, leB]; done) | (simp_all [idxOk, cutOk, leB]; omega) | (simp [idxOk, cutOk, leB] at *; omega) | (have hf0 := h_x0.1; simp only [leB, decide_eq_true_eq, List.length_append, List.length_cons, List.length_nil]; omega)) (StE.chk (by first | exact idx_ok (by omega) | exact idx_ok (by have hq := len_eq (by assumption); omega) | exact idx_found (show (0 : Int) ≤ (wrap64 ((i0 : Int) - 1)) by simp_all) | exact cut_ok (by omega) | exact or_ok (idx_ok (by omega)) | (refine or1 (fun hz => pre_ok (by simp at hz; omega) (by omega) (by omega))) | exact pre_ok (by omega) (by omega) (by omega) | (simp_all [idxOk, cutOk, leB]; done) | (simp_all [idxOk, cutOk, leB]; omega) | (simp [idxOk, cutOk, leB] at *; omega) | (have hf0 := h_x0.1; simp only [leB, decide_eq_true_eq, List.length_append, List.length_cons, List.length_nil]; omega)) (StE.ifh (fun hc1 => (StE.ret _)) (fun hc1 => StE.next))))) (fun j hj => by
  simp only [impl_isRising.l0_s]
  exact Evt.f (ge_lt hj) (Evt.self _))) (fun _ => rfl) (Evt.self _))
def impl_RuleFault_v (x0 : Rule) : Int := (bif !(impl_within_v (x0.fKeys.length : Int) 1 3) then 2 else (bif (((!(impl_areKeys_v x0.fKeys)) || (!(bif (!(!(impl_areKeys_v x0.fKeys))) then (impl_within_v x0.fNeed 1 (x0.fKeys.length : Int)) else default))) || (!(bif (!((!(impl_areKeys_v x0.fKeys)) || (!(bif (!(!(impl_areKeys_v x0.fKeys))) then (impl_within_v x0.fNeed 1 (x0.fKeys.length : Int)) else default)))) then (impl_isHeight_v x0.fAfter) else default))) then 3 else (bif !(impl_isRising_v x0.fKeys) then 1 else 0)))
theorem impl_RuleFault_ev (x0 : Rule) (h_x0 : smRule x0) : Evt (fun k => impl_RuleFault.f k x0) (impl_RuleFault_v x0) :=
  (Evt.bind (impl_within_ev (x0.fKeys.length : Int) 1 3) (Evt.ifh (fun hc2 => (Evt.self _)) (fun hc2 => (Evt.bind (impl_areKeys_ev x0.fKeys (h_x0.1)) (Evt.bind (Evt.ifh (fun _ => (impl_within_ev x0.fNeed 1 (x0.fKeys.length : Int))) (fun _ => Evt.self _)) (Evt.bind (Evt.ifh (fun _ => (impl_isHeight_ev x0.fAfter)) (fun _ => Evt.self _)) (Evt.ifh (fun hc1 => (Evt.self _)) (fun hc1 => (Evt.bind (impl_isRising_ev x0.fKeys (h_x0.1)) (Evt.ifh (fun hc0 => (Evt.self _)) (fun hc0 => (Evt.self _))))))))))))
theorem ruleFault_same (x0 : Rule) : impl_RuleFault_v x0 = spec_l2Fault_v x0 := by
  simp only [impl_RuleFault_v, spec_l2Fault_v, impl_areKeys_v, slices_ContainsFunc_int64_any, impl_areKeys_1_v, impl_isKey_v, spec_l1Key_v, impl_within_v, spec_l1In_v, impl_isHeight_v, spec_l2Height_v, impl_isRising_v, found_any]
  generalize (List.range' 0 (x0.fKeys.length - 0)).any _ = a
  generalize (List.range' 1 (x0.fKeys.length - 1)).any _ = b
  generalize (decide (1 ≤ x0.fNeed) && decide (x0.fNeed ≤ (x0.fKeys.length : Int))) = c
  generalize (decide (0 ≤ x0.fAfter) && decide (x0.fAfter ≤ 999)) = d
  generalize (decide (1 ≤ (x0.fKeys.length : Int)) && decide ((x0.fKeys.length : Int) ≤ 3)) = e
  cases a <;> cases b <;> cases c <;> cases d <;> cases e <;> rfl
def cmp_isNaN_int64_v (x0 : Int) : Bool := (x0 != x0)
theorem cmp_isNaN_int64_ev (x0 : Int)  : Evt (fun k => cmp_isNaN_int64.f k x0) (cmp_isNaN_int64_v x0) :=
  (Evt.self _)
def cmp_Compare_int64_v (x0 : Int) (x1 : Int) : Int := (bif (cmp_isNaN_int64_v x0) then (bif (cmp_isNaN_int64_v x1) then 0 else (-1)) else (bif (cmp_isNaN_int64_v x1) then 1 else (bif (decide (x0 < x1)) then (-1) else (bif (decide (x1 < x0)) then 1 else 0))))
theorem cmp_Compare_int64_ev (x0 : Int) (x1 : Int)  : Evt (fun k => cmp_Compare_int64.f k x0 x1) (cmp_Compare_int64_v x0 x1) :=
  (Evt.bind (cmp_isNaN_int64_ev x0) (Evt.bind (cmp_isNaN_int64_ev x1) (Evt.ifh (fun hc4 => (Evt.ifh (fun hc0 => (Evt.self _)) (fun hc0 => (Evt.self _)))) (fun hc4 => (Evt.ifh (fun hc3 => (Evt.self _)) (fun hc3 => (Evt.ifh (fun hc2 => (Evt.self _)) (fun hc2 => (Evt.ifh (fun hc1 => (Evt.self _)) (fun hc1 => (Evt.self _)))))))))))
def cmp_Or_int_v (x0 : List Int) : Int := (onO ((List.range' 0 (x0.length - 0)).findSome? (fun (i0 : Nat) => (bif ((gt x0 (i0 : Int)) != 0) then (some (gt x0 (i0 : Int))) else none))) (fun r => r) 0)
theorem cmp_Or_int_ev (x0 : List Int) (h_x0 : (Lm tr) x0) : Evt (fun k => cmp_Or_int.f k x0) (cmp_Or_int_v x0) :=
  (Evt.loop (r' := fun r => r) (Evt.srch (L := (fun k i => cmp_Or_int.l0 x0 k i)) 0 x0.length (by have := h_x0; first | (have := this.1; omega) | omega) (fun (i0 : Nat) => (bif ((gt x0 (i0 : Int)) != 0) then (some (gt x0 (i0 : Int))) else none)) (fun i0 hs2 hi2 => by
  have hbn : x0.length ≤ 9223372036854775807 := (by have := h_x0; first | (have := this.1; omega) | omega)
  simp only [cmp_Or_int.l0_s]
  exact Evt_t2 (int_lt hi2) (StE.chk (by first | exact idx_ok (by omega) | exact idx_ok (by have hq := len_eq (by assumption); omega) | exact idx_found (show (0 : Int) ≤ (i0 : Int) by simp_all) | exact cut_ok (by omega) | exact or_ok (idx_ok (by omega)) | (refine or1 (fun hz => pre_ok (by simp at hz; omega) (by omega) (by omega))) | exact pre_ok (by omega) (by omega) (by omega) | (simp_all [idxOk, cutOk, leB]; done) | (simp_all [idxOk, cutOk, leB]; omega) | (simp [idxOk, cutOk, leB] at *; omega) | (have hf0 := h_x0.1; simp only [leB, decide_eq_true_eq, List.length_append, List.length_cons, List.length_nil]; omega)) (StE.ifh (fun hc1 => (StE.ret _)) (fun hc1 => StE.next)))) (fun j hj => by
  simp only [cmp_Or_int.l0_s]
  exact Evt.f (ge_lt hj) (Evt.self _))) (fun _ => rfl) (Evt.self _))
def impl_compareRefs_v (x0 : Ref) (x1 : Ref) : Int := (cmp_Or_int_v ([(cmp_Compare_int64_v x0.fTx x1.fTx), (cmp_Compare_int64_v x0.fAt x1.fAt)] : List Int))
theorem impl_compareRefs_ev (x0 : Ref) (x1 : Ref)  : Evt (fun k => impl_compareRefs.f k x0 x1) (impl_compareRefs_v x0 x1) :=
  (Evt.bind (cmp_Compare_int64_ev x0.fTx x1.fTx) (Evt.bind (cmp_Compare_int64_ev x0.fAt x1.fAt) (Evt.bind (cmp_Or_int_ev ([(cmp_Compare_int64_v x0.fTx x1.fTx), (cmp_Compare_int64_v x0.fAt x1.fAt)] : List Int) ((⟨by simp, fun _ _ => trivial⟩ : Lm tr ([(cmp_Compare_int64_v x0.fTx x1.fTx), (cmp_Compare_int64_v x0.fAt x1.fAt)] : List Int)))) (Evt.self _))))
def impl_CoinsFault_v (x0 : List Coin) : Int := (bif (decide (40 < (x0.length : Int))) then 2 else (onO ((List.range' 0 (x0.length - 0)).findSome? (fun (i0 : Nat) => (bif (((!(impl_isRef_v ((gt x0 (i0 : Int)).fRef))) || (!(bif (!(!(impl_isRef_v ((gt x0 (i0 : Int)).fRef)))) then (impl_isHeight_v ((gt x0 (i0 : Int)).fHeight)) else default))) || (!(bif (!((!(impl_isRef_v ((gt x0 (i0 : Int)).fRef))) || (!(bif (!(!(impl_isRef_v ((gt x0 (i0 : Int)).fRef)))) then (impl_isHeight_v ((gt x0 (i0 : Int)).fHeight)) else default)))) then (impl_within_v ((gt x0 (i0 : Int)).fOut.fValue) 1 1000000) else default))) then (some 3) else (bif ((impl_RuleFault_v ((gt x0 (i0 : Int)).fOut.fRule)) != 0) then (some (impl_RuleFault_v ((gt x0 (i0 : Int)).fOut.fRule))) else (bif ((decide (0 < (i0 : Int))) && (decide (0 ≤ (bif (decide (0 < (i0 : Int))) then (impl_compareRefs_v ((gt x0 (wrap64 ((i0 : Int) - 1))).fRef) ((gt x0 (i0 : Int)).fRef)) else default)))) then (some 1) else none))))) (fun r => r) 0))
theorem impl_CoinsFault_ev (x0 : List Coin) (h_x0 : (Lm smCoin) x0) : Evt (fun k => impl_CoinsFault.f k x0) (impl_CoinsFault_v x0) :=
  (Evt.ifh (fun hc4 => (Evt.self _)) (fun hc4 => (Evt.loop (r' := fun r => r) (Evt.srch (L := (fun k i => impl_CoinsFault.l0 x0 k i)) 0 x0.length (by have := h_x0; first | (have := this.1; omega) | omega) (fun (i0 : Nat) => (bif (((!(impl_isRef_v ((gt x0 (i0 : Int)).fRef))) || (!(bif (!(!(impl_isRef_v ((gt x0 (i0 : Int)).fRef)))) then (impl_isHeight_v ((gt x0 (i0 : Int)).fHeight)) else default))) || (!(bif (!((!(impl_isRef_v ((gt x0 (i0 : Int)).fRef))) || (!(bif (!(!(impl_isRef_v ((gt x0 (i0 : Int)).fRef)))) then (impl_isHeight_v ((gt x0 (i0 : Int)).fHeight)) else default)))) then (impl_within_v ((gt x0 (i0 : Int)).fOut.fValue) 1 1000000) else default))) then (some 3) else (bif ((impl_RuleFault_v ((gt x0 (i0 : Int)).fOut.fRule)) != 0) then (some (impl_RuleFault_v ((gt x0 (i0 : Int)).fOut.fRule))) else (bif ((decide (0 < (i0 : Int))) && (decide (0 ≤ (bif (decide (0 < (i0 : Int))) then (impl_compareRefs_v ((gt x0 (wrap64 ((i0 : Int) - 1))).fRef) ((gt x0 (i0 : Int)).fRef)) else default)))) then (some 1) else none)))) (fun i0 hs4 hi4 => by
  have hbn : x0.length ≤ 9223372036854775807 := (by have := h_x0; first | (have := this.1; omega) | omega)
  simp only [impl_CoinsFault.l0_s]
  exact Evt_t2 (int_lt hi4) (StE.chk (by first | exact idx_ok (by omega) | exact idx_ok (by have hq := len_eq (by assumption); omega) | exact idx_found (show (0 : Int) ≤ (i0 : Int) by simp_all) | exact cut_ok (by omega) | exact or_ok (idx_ok (by omega)) | (refine or1 (fun hz => pre_ok (by simp at hz; omega) (by omega) (by omega))) | exact pre_ok (by omega) (by omega) (by omega) | (simp_all [idxOk, cutOk, leB]; done) | (simp_all [idxOk, cutOk, leB]; omega) | (simp [idxOk, cutOk, leB] at *; omega) | (have hf0 := h_x0.1; simp only [leB, decide_eq_true_eq, List.length_append, List.length_cons, List.length_nil]; omega)) (StE.bind (impl_isRef_ev ((gt x0 (i0 : Int)).fRef)) (StE.bind (Evt.ifh (fun _ => (impl_isHeight_ev ((gt x0 (i0 : Int)).fHeight))) (fun _ => Evt.self _)) (StE.bind (Evt.ifh (fun _ => (impl_within_ev ((gt x0 (i0 : Int)).fOut.fValue) 1 1000000)) (fun _ => Evt.self _)) (StE.ifh (fun hc3 => (StE.ret _)) (fun hc3 => (StE.bind (impl_RuleFault_ev ((gt x0 (i0 : Int)).fOut.fRule) ((((h_x0).2 _ (gt_mem (by first | omega | (have hq := len_eq (by assumption); omega) | (have hf0 := h_x0.1; simp only [leB, decide_eq_true_eq, List.length_append, List.length_cons, List.length_nil]; omega)))).2.1).2)) (StE.ifh (fun hc2 => (StE.ret _)) (fun hc2 => (StE.chk (by first | exact idx_ok (by omega) | exact idx_ok (by have hq := len_eq (by assumption); omega) | exact idx_found (by simp_all) | exact cut_ok (by omega) | exact or_ok (idx_ok (by omega)) | (refine or1 (fun hz => pre_ok (by simp at hz; omega) (by omega) (by omega))) | exact pre_ok (by omega) (by omega) (by omega) | (simp_all [idxOk, cutOk, leB]; done) | (simp_all [idxOk, cutOk, leB]; omega) | (simp [idxOk, cutOk, leB] at *; omega) | (have hf0 := h_x0.1; simp only [leB, decide_eq_true_eq, List.length_append, List.length_cons, List.length_nil]; omega)) (StE.bind (Evt.ifh (fun _ => (impl_compareRefs_ev ((gt x0 (wrap64 ((i0 : Int) - 1))).fRef) ((gt x0 (i0 : Int)).fRef))) (fun _ => Evt.self _)) (StE.ifh (fun hc1 => (StE.ret _)) (fun hc1 => StE.next)))))))))))))) (fun j hj => by
  simp only [impl_CoinsFault.l0_s]
  exact Evt.f (ge_lt hj) (Evt.self _))) (fun _ => rfl) (Evt.self _))))
theorem refs_same (r : Ref) : impl_isRef_v r = spec_l3Ref_v r := by simp only [impl_isRef_v, spec_l3Ref_v, impl_isId_v, impl_within_v, spec_l1In_v]
theorem or_two (p q : Int) : cmp_Or_int_v ([p, q] : List Int) = bif p != 0 then p else bif q != 0 then q else 0 := by
  show onO (([0, 1] : List Nat).findSome? fun i : Nat => bif (gt [p, q] (i : Int)) != 0 then some (gt [p, q] (i : Int)) else none) (fun r => r) 0 = _
  have e0 : gt [p, q] ((0 : Nat) : Int) = p := rfl
  have e1 : gt [p, q] ((1 : Nat) : Int) = q := rfl
  rw [List.findSome?_cons, List.findSome?_cons, List.findSome?_nil, e0, e1]
  cases (p != 0) <;> cases (q != 0) <;> rfl
theorem compare_eq (a b : Int) : cmp_Compare_int64_v a b = bif decide (a < b) then -1 else bif decide (b < a) then 1 else 0 := by
  have e : ∀ x : Int, cmp_isNaN_int64_v x = false := fun x => by simp [cmp_isNaN_int64_v]
  simp only [cmp_Compare_int64_v, e]; rfl
theorem ahead_eq (a b : Ref) : decide (0 ≤ impl_compareRefs_v a b) = !(spec_l4Ahead_v a b) := by
  have e : impl_compareRefs_v a b = bif (cmp_Compare_int64_v a.fTx b.fTx) != 0 then cmp_Compare_int64_v a.fTx b.fTx else bif (cmp_Compare_int64_v a.fAt b.fAt) != 0 then cmp_Compare_int64_v a.fAt b.fAt else 0 := or_two _ _
  rw [e, compare_eq, compare_eq]
  unfold spec_l4Ahead_v
  by_cases h1 : a.fTx < b.fTx
  · have h2 : ¬ a.fTx = b.fTx := by omega
    simp [h1, h2]
  · by_cases h2 : b.fTx < a.fTx
    · have h3 : ¬ a.fTx = b.fTx := by omega
      simp [h1, h2, h3]
    · have h3 : a.fTx = b.fTx := by omega
      by_cases h4 : a.fAt < b.fAt
      · simp [h3, h4]
      · by_cases h5 : b.fAt < a.fAt
        · simp [h3, h4, h5]
        · simp [h3, h4, h5]
theorem coinsFault_same (x0 : List Coin) : impl_CoinsFault_v x0 = spec_l4Fault_v x0 := by
  unfold impl_CoinsFault_v spec_l4Fault_v
  congr 2
  refine fs_congr fun i hi => ?_
  simp only [refs_same, ruleFault_same, spec_l4Out_v]
  have e1 : ∀ n a b : Int, impl_within_v n a b = spec_l1In_v n a b := fun _ _ _ => rfl
  have e2 : ∀ n : Int, impl_isHeight_v n = spec_l2Height_v n := fun _ => rfl
  have e3 : (decide (0 < (i : Int)) && decide (0 ≤ (bif decide (0 < (i : Int)) then impl_compareRefs_v (gt x0 (wrap64 ((i : Int) - 1))).fRef (gt x0 (i : Int)).fRef else default))) =
      (decide (0 < (i : Int)) && !(bif decide (0 < (i : Int)) then spec_l4Ahead_v (gt x0 (wrap64 ((i : Int) - 1))).fRef (gt x0 (i : Int)).fRef else default)) := by
    cases decide (0 < (i : Int))
    · rfl
    · exact ahead_eq _ _
  rw [e3]
  simp only [e1, e2]
  generalize (decide (0 < (i : Int)) && !(bif decide (0 < (i : Int)) then spec_l4Ahead_v (gt x0 (wrap64 ((i : Int) - 1))).fRef (gt x0 (i : Int)).fRef else default)) = z
  generalize spec_l3Ref_v (gt x0 (i : Int)).fRef = a
  generalize spec_l2Height_v (gt x0 (i : Int)).fHeight = b
  generalize spec_l1In_v (gt x0 (i : Int)).fOut.fValue 1 1000000 = c
  cases a <;> cases b <;> cases c <;> rfl
theorem rising (f : Nat → Int) (n : Nat) (h : ∀ i, i + 1 < n → f i < f (i + 1)) : ∀ d a, a + d + 1 < n → f a < f (a + d + 1)
  | 0, a, hb => h a hb
  | d + 1, a, hb => by
    have h1 := rising f n h d a (by omega)
    have h2 := h (a + d + 1) hb
    have e : a + (d + 1) + 1 = a + d + 1 + 1 := by omega
    rw [e]; omega
theorem compare_lt (a b : Int) : cmp_Compare_int64_v a b < 0 ↔ a < b := by
  rw [compare_eq]
  by_cases h : a < b
  · simp [h]
  · by_cases h2 : b < a <;> simp [h, h2]
theorem compare_zero (a b : Int) : cmp_Compare_int64_v a b = 0 ↔ a = b := by
  rw [compare_eq]
  by_cases h : a < b
  · simp [h]; omega
  · by_cases h2 : b < a
    · simp [h, h2]; omega
    · simp [h, h2]; omega
def lexL (a b : Ref) : Prop := a.fTx < b.fTx ∨ a.fTx = b.fTx ∧ a.fAt < b.fAt
theorem risingR {R : Nat → Nat → Prop} (n : Nat) (tr : ∀ a b c, c < n → R a b → R b c → R a c) (h : ∀ i, i + 1 < n → R i (i + 1)) : ∀ d a, a + d + 1 < n → R a (a + d + 1)
  | 0, a, hb => h a hb
  | d + 1, a, hb => tr _ _ _ hb (risingR n tr h d a (by omega)) (h (a + d + 1) hb)
theorem compareRefs_lt (a b : Ref) : impl_compareRefs_v a b < 0 ↔ lexL a b := by
  have e : impl_compareRefs_v a b = bif (cmp_Compare_int64_v a.fTx b.fTx) != 0 then cmp_Compare_int64_v a.fTx b.fTx else bif (cmp_Compare_int64_v a.fAt b.fAt) != 0 then cmp_Compare_int64_v a.fAt b.fAt else 0 := or_two _ _
  rw [e, compare_eq, compare_eq]
  unfold lexL
  by_cases h1 : a.fTx < b.fTx
  · simp [h1]
  · by_cases h2 : b.fTx < a.fTx
    · simp [h1, h2]; omega
    · have h3 : a.fTx = b.fTx := by omega
      by_cases h4 : a.fAt < b.fAt
      · simp [h3, h4]
      · by_cases h5 : b.fAt < a.fAt
        · simp [h3, h4, h5]
        · simp [h3, h4, h5]
theorem compareRefs_zero (a b : Ref) : impl_compareRefs_v a b = 0 ↔ a.fTx = b.fTx ∧ a.fAt = b.fAt := by
  have e : impl_compareRefs_v a b = bif (cmp_Compare_int64_v a.fTx b.fTx) != 0 then cmp_Compare_int64_v a.fTx b.fTx else bif (cmp_Compare_int64_v a.fAt b.fAt) != 0 then cmp_Compare_int64_v a.fAt b.fAt else 0 := or_two _ _
  rw [e, compare_eq, compare_eq]
  by_cases h1 : a.fTx < b.fTx
  · simp [h1]; omega
  · by_cases h2 : b.fTx < a.fTx
    · simp [h1, h2]; omega
    · have h3 : a.fTx = b.fTx := by omega
      by_cases h4 : a.fAt < b.fAt
      · simp [h3, h4]; omega
      · by_cases h5 : b.fAt < a.fAt
        · simp [h3, h4, h5]; omega
        · have h6 : a.fAt = b.fAt := by omega
          simp [h3, h6]
theorem ahead_lex (a b : Ref) : spec_l4Ahead_v a b = true ↔ lexL a b := by
  unfold spec_l4Ahead_v lexL
  by_cases h : a.fTx = b.fTx
  · simp [h]
  · have h2 : (a.fTx != b.fTx) = true := by simp [h]
    rw [h2]; simp; omega
theorem three_ne (a : Bool) (q : Int) (b : Bool) : (bif a then some (3 : Int) else bif q != 0 then some q else bif b then some 1 else none) ≠ some 0 := by
  cases a
  · cases hq : q != 0
    · cases b <;> simp
    · simp at hq; simpa using hq
  · simp
theorem three_none {a : Bool} {q : Int} {b : Bool} (h : (bif a then some (3 : Int) else bif q != 0 then some q else bif b then some 1 else none) = none) : b = false := by
  cases a
  · cases hq : q != 0
    · rw [hq] at h; cases b
      · rfl
      · cases h
    · rw [hq] at h; cases h
  · cases h
theorem coins_step (x0 : List Coin) (hl : x0.length ≤ 1048576) (h : spec_l4Fault_v x0 = 0) : ∀ i, i + 1 < x0.length → lexL (gt x0 (i : Int)).fRef (gt x0 ((i + 1 : Nat) : Int)).fRef := by
  intro i hi
  unfold spec_l4Fault_v at h
  cases hc : decide (40 < (x0.length : Int))
  · rw [hc] at h
    obtain ⟨h1, _⟩ := onO_zero h (fun i => three_ne _ _ _)
    have h2 := three_none (fs_all h1 (i + 1) hi)
    have e : wrap64 (((i + 1 : Nat) : Int) - 1) = (i : Int) := by have := wrap64_in (((i + 1 : Nat) : Int) - 1) (by omega); rw [this]; omega
    have e2 : decide (0 < ((i + 1 : Nat) : Int)) = true := decide_eq_true (by omega)
    rw [e, e2] at h2
    rw [← ahead_lex]
    cases hq : spec_l4Ahead_v (gt x0 (i : Int)).fRef (gt x0 ((i + 1 : Nat) : Int)).fRef
    · rw [hq] at h2; cases h2
    · rfl
  · rw [hc] at h; exact absurd (show (2 : Int) = 0 from h) (by decide)
theorem lex_trans {a b c : Ref} (h : lexL a b) (k : lexL b c) : lexL a c := by unfold lexL at *; omega
theorem coins_lt (x0 : List Coin) (hl : x0.length ≤ 1048576) (h : spec_l4Fault_v x0 = 0) (a b : Nat) (hab : a < b) (hb : b < x0.length) : lexL (gt x0 (a : Int)).fRef (gt x0 (b : Int)).fRef := by
  have := risingR (R := fun a b => lexL (gt x0 (a : Int)).fRef (gt x0 (b : Int)).fRef) x0.length (fun a b c _ h k => lex_trans h k) (coins_step x0 hl h) (b - a - 1) a (by omega)
  have e : a + (b - a - 1) + 1 = b := by omega
  rw [e] at this
  exact this
/-- In a row whose refs rise: what is found. -/
def Rise (xs : List Coin) : Prop := xs.length ≤ 1048576 ∧ xs.Pairwise fun a b => lexL a.fRef b.fRef
theorem Rise.lt {xs : List Coin} (h : Rise xs) (a b : Nat) (hab : a < b) (hb : b < xs.length) : lexL (gt xs (a : Int)).fRef (gt xs (b : Int)).fRef := by
  rw [gt_eq (by simp; omega), gt_eq (by simpa using hb)]
  exact (List.pairwise_iff_getElem.1 h.2) _ _ _ _ (by simpa using hab)
theorem Rise.of {xs : List Coin} (hl : xs.length ≤ 1048576) (h : ∀ a b : Nat, a < b → b < xs.length → lexL (gt xs (a : Int)).fRef (gt xs (b : Int)).fRef) : Rise xs := by
  refine ⟨hl, List.pairwise_iff_getElem.2 fun i j hi hj hij => ?_⟩
  have := h i j hij hj
  rw [gt_eq (by simpa using hi), gt_eq (by simpa using hj)] at this
  simpa using this
theorem Rise.sub {xs ys : List Coin} (h : Rise xs) (s : ys.Sublist xs) : Rise ys := ⟨Nat.le_trans s.length_le h.1, h.2.sublist s⟩
theorem rise_of {x0 : List Coin} (h0 : Lm smCoin x0) (h : spec_l4Fault_v x0 = 0) : Rise x0 := Rise.of h0.1 (coins_lt x0 h0.1 h)
theorem fault_len {x0 : List Coin} (h : spec_l4Fault_v x0 = 0) : x0.length ≤ 40 := by
  unfold spec_l4Fault_v at h
  by_cases hc : x0.length ≤ 40
  · exact hc
  · have : decide (40 < (x0.length : Int)) = true := by simp; omega
    rw [this] at h
    exact absurd (show (2 : Int) = 0 from h) (by decide)
def kLt (a b : Int × Int) : Prop := a.1 < b.1 ∨ a.1 = b.1 ∧ a.2 < b.2
theorem rise_keys {xs : List Coin} (h : xs.Pairwise fun a b => lexL a.fRef b.fRef) : (xs.map refKey).Nodup := by
  unfold List.Nodup
  rw [List.pairwise_map]
  refine h.imp fun {a b} hab e => ?_
  unfold refKey at e
  have e1 := (Prod.mk.inj e).1; have e2 := (Prod.mk.inj e).2
  unfold lexL at hab; omega
theorem lex_le {a b : Coin} (h : lexL a.fRef b.fRef) : refLe a b = true := by
  rw [refLe_iff]; unfold lexL at h; omega
/-- What rises, and is made of the same, is what the sort makes. -/
theorem sort_uniq {xs ys : List Coin} (hp : ys.Perm xs) (hr : ys.Pairwise fun a b => lexL a.fRef b.fRef) : xs.mergeSort refLe = ys := by
  have hms : (xs.mergeSort refLe).Pairwise (fun a b => refLe a b = true) := List.pairwise_mergeSort (fun a b c h1 h2 => by rw [refLe_iff] at *; omega) (fun a b => by
    rw [Bool.or_eq_true, refLe_iff, refLe_iff]; omega) xs
  have hpm : (xs.mergeSort refLe).Perm ys := (List.mergeSort_perm xs refLe).trans hp.symm
  refine sorted_uniq hpm hms (hr.imp lex_le) (fun a ha b hb h1 h2 => ?_)
  refine key_inj (rise_keys hr) a (hpm.mem_iff.1 ha) b (hpm.mem_iff.1 hb) ?_
  rw [refLe_iff] at h1 h2
  have e1 : a.fRef.fTx = b.fRef.fTx := by omega
  have e2 : a.fRef.fAt = b.fRef.fAt := by omega
  unfold refKey
  rw [e1, e2]
def impl_TxFault_1_v (x0 : Int) : Bool := ((decide (x0 < 1)) || (decide (4 < x0)))
theorem impl_TxFault_1_ev (x0 : Int)  : Evt (fun k => impl_TxFault_1.f k x0) (impl_TxFault_1_v x0) :=
  (Evt.self _)
def slices_Index_impl_Ref_v (x0 : List Ref) (x1 : Ref) : Int := (onO ((List.range' 0 (x0.length - 0)).findSome? (fun (i0 : Nat) => (bif ((x1.fTx == ((gt x0 (i0 : Int)).fTx)) && (x1.fAt == ((gt x0 (i0 : Int)).fAt))) then (some (i0 : Int)) else none))) (fun r => r) (-1))
theorem slices_Index_impl_Ref_ev (x0 : List Ref) (x1 : Ref) (h_x0 : (Lm smRef) x0) : Evt (fun k => slices_Index_impl_Ref.f k x0 x1) (slices_Index_impl_Ref_v x0 x1) :=
  (Evt.loop (r' := fun r => r) (Evt.srch (L := (fun k i => slices_Index_impl_Ref.l0 x0 x1 k i)) 0 x0.length (by have := h_x0; first | (have := this.1; omega) | omega) (fun (i0 : Nat) => (bif ((x1.fTx == ((gt x0 (i0 : Int)).fTx)) && (x1.fAt == ((gt x0 (i0 : Int)).fAt))) then (some (i0 : Int)) else none)) (fun i0 hs2 hi2 => by
  have hbn : x0.length ≤ 9223372036854775807 := (by have := h_x0; first | (have := this.1; omega) | omega)
  simp only [slices_Index_impl_Ref.l0_s]
  exact Evt_t2 (int_lt hi2) (StE.chk (by first | exact idx_ok (by omega) | exact idx_ok (by have hq := len_eq (by assumption); omega) | exact idx_found (show (0 : Int) ≤ (i0 : Int) by simp_all) | exact cut_ok (by omega) | exact or_ok (idx_ok (by omega)) | (refine or1 (fun hz => pre_ok (by simp at hz; omega) (by omega) (by omega))) | exact pre_ok (by omega) (by omega) (by omega) | (simp_all [idxOk, cutOk, leB]; done) | (simp_all [idxOk, cutOk, leB]; omega) | (simp [idxOk, cutOk, leB] at *; omega) | (have hf0 := h_x0.1; simp only [leB, decide_eq_true_eq, List.length_append, List.length_cons, List.length_nil]; omega)) (StE.ifh (fun hc1 => (StE.ret _)) (fun hc1 => StE.next)))) (fun j hj => by
  simp only [slices_Index_impl_Ref.l0_s]
  exact Evt.f (ge_lt hj) (Evt.self _))) (fun _ => rfl) (Evt.self _))
def slices_Contains_impl_Ref_v (x0 : List Ref) (x1 : Ref) : Bool := (decide (0 ≤ (slices_Index_impl_Ref_v x0 x1)))
theorem slices_Contains_impl_Ref_ev (x0 : List Ref) (x1 : Ref) (h_x0 : (Lm smRef) x0) : Evt (fun k => slices_Contains_impl_Ref.f k x0 x1) (slices_Contains_impl_Ref_v x0 x1) :=
  (Evt.bind (slices_Index_impl_Ref_ev x0 x1 (h_x0)) (Evt.self _))
theorem slices_Contains_impl_Ref_any (x0 : List Ref) (x1 : Ref) : slices_Contains_impl_Ref_v x0 x1 = (List.range' 0 (x0.length - 0)).any (fun (i0 : Nat) => ((x1.fTx == ((gt x0 (i0 : Int)).fTx)) && (x1.fAt == ((gt x0 (i0 : Int)).fAt)))) := idx_any _ _
def impl_outFault_v (x0 : Out) : Int := (bif !(impl_within_v x0.fValue 1 1000000) then 3 else (impl_RuleFault_v x0.fRule))
theorem impl_outFault_ev (x0 : Out) (h_x0 : smOut x0) : Evt (fun k => impl_outFault.f k x0) (impl_outFault_v x0) :=
  (Evt.bind (impl_within_ev x0.fValue 1 1000000) (Evt.ifh (fun hc0 => (Evt.self _)) (fun hc0 => (Evt.bind (impl_RuleFault_ev x0.fRule (h_x0.2)) (Evt.self _)))))
def impl_TxFault_v (x0 : Tx) : Int := (bif ((!(impl_within_v x0.fKind 0 2)) || ((x0.fKind == 0) != (x0.fMember == 0))) then 1 else (bif ((x0.fMember != 0) && (!(bif (x0.fMember != 0) then (impl_isKey_v x0.fMember) else default))) then 3 else (bif ((impl_TxFault_1_v (x0.fIns.length : Int)) || (bif (!(impl_TxFault_1_v (x0.fIns.length : Int))) then (impl_TxFault_1_v (x0.fOuts.length : Int)) else default)) then 2 else (onO ((List.range' 0 (x0.fIns.length - 0)).findSome? (fun (i0 : Nat) => (bif !(impl_isRef_v (gt x0.fIns (i0 : Int))) then (some 3) else (bif (slices_Contains_impl_Ref_v (x0.fIns.take ((i0 : Int)).toNat) (gt x0.fIns (i0 : Int))) then (some 7) else none)))) (fun r => r) (onO ((List.range' 0 (x0.fOuts.length - 0)).findSome? (fun (i3 : Nat) => (bif ((impl_outFault_v (gt x0.fOuts (i3 : Int))) != 0) then (some (impl_outFault_v (gt x0.fOuts (i3 : Int)))) else none))) (fun r => r) (bif ((x0.fKind == 1) && (decide (((gt x0.fOuts (0 : Int)).fValue) < 100))) then 8 else 0))))))
theorem impl_TxFault_ev (x0 : Tx) (h_x0 : smTx x0) : Evt (fun k => impl_TxFault.f k x0) (impl_TxFault_v x0) :=
  (Evt.bind (impl_within_ev x0.fKind 0 2) (Evt.ifh (fun hc8 => (Evt.self _)) (fun hc8 => (Evt.bind (Evt.ifh (fun _ => (impl_isKey_ev x0.fMember)) (fun _ => Evt.self _)) (Evt.ifh (fun hc7 => (Evt.self _)) (fun hc7 => (Evt.bind (impl_TxFault_1_ev (x0.fIns.length : Int)) (Evt.bind (Evt.ifh (fun _ => (impl_TxFault_1_ev (x0.fOuts.length : Int))) (fun _ => Evt.self _)) (Evt.ifh (fun hc6 => (Evt.self _)) (fun hc6 => (Evt.loop (r' := fun r => r) (Evt.srch (L := (fun k i => impl_TxFault.l0 x0 k i)) 0 x0.fIns.length (by have := h_x0.2.2.1; first | (have := this.1; omega) | omega) (fun (i0 : Nat) => (bif !(impl_isRef_v (gt x0.fIns (i0 : Int))) then (some 3) else (bif (slices_Contains_impl_Ref_v (x0.fIns.take ((i0 : Int)).toNat) (gt x0.fIns (i0 : Int))) then (some 7) else none))) (fun i0 hs3 hi3 => by
  have hbn : x0.fIns.length ≤ 9223372036854775807 := (by have := h_x0.2.2.1; first | (have := this.1; omega) | omega)
  simp only [impl_TxFault.l0_s]
  exact Evt_t2 (int_lt hi3) (StE.chk (by first | exact idx_ok (by omega) | exact idx_ok (by have hq := len_eq (by assumption); omega) | exact idx_found (show (0 : Int) ≤ (i0 : Int) by simp_all) | exact cut_ok (by omega) | exact or_ok (idx_ok (by omega)) | (refine or1 (fun hz => pre_ok (by simp at hz; omega) (by omega) (by omega))) | exact pre_ok (by omega) (by omega) (by omega) | (simp_all [idxOk, cutOk, leB]; done) | (simp_all [idxOk, cutOk, leB]; omega) | (simp [idxOk, cutOk, leB] at *; omega) | (simp_all [idxOk, impl_TxFault_1_v]; omega) | (have hf0 := h_x0.2.2.1.1; have hf1 := h_x0.2.2.2.1; simp only [leB, decide_eq_true_eq, List.length_append, List.length_cons, List.length_nil]; omega)) (StE.bind (impl_isRef_ev (gt x0.fIns (i0 : Int))) (StE.ifh (fun hc2 => (StE.ret _)) (fun hc2 => (StE.chk (by first | exact idx_ok (by omega) | exact idx_ok (by have hq := len_eq (by assumption); omega) | exact idx_found (by simp_all) | exact cut_ok (by omega) | exact or_ok (idx_ok (by omega)) | (refine or1 (fun hz => pre_ok (by simp at hz; omega) (by omega) (by omega))) | exact pre_ok (by omega) (by omega) (by omega) | (simp_all [idxOk, cutOk, leB]; done) | (simp_all [idxOk, cutOk, leB]; omega) | (simp [idxOk, cutOk, leB] at *; omega) | (simp_all [idxOk, impl_TxFault_1_v]; omega) | (have hf0 := h_x0.2.2.1.1; have hf1 := h_x0.2.2.2.1; simp only [leB, decide_eq_true_eq, List.length_append, List.length_cons, List.length_nil]; omega)) (StE.bind (slices_Contains_impl_Ref_ev (x0.fIns.take ((i0 : Int)).toNat) (gt x0.fIns (i0 : Int)) ((Lm_take h_x0.2.2.1))) (StE.ifh (fun hc1 => (StE.ret _)) (fun hc1 => StE.next))))))))) (fun j hj => by
  simp only [impl_TxFault.l0_s]
  exact Evt.f (ge_lt hj) (Evt.self _))) (fun _ => rfl) (Evt.loop (r' := fun r => r) (Evt.srch (L := (fun k i => impl_TxFault.l1 x0 k i)) 0 x0.fOuts.length (by have := h_x0.2.2.2; first | (have := this.1; omega) | omega) (fun (i3 : Nat) => (bif ((impl_outFault_v (gt x0.fOuts (i3 : Int))) != 0) then (some (impl_outFault_v (gt x0.fOuts (i3 : Int)))) else none)) (fun i3 hs5 hi5 => by
  have hbn : x0.fOuts.length ≤ 9223372036854775807 := (by have := h_x0.2.2.2; first | (have := this.1; omega) | omega)
  simp only [impl_TxFault.l1_s]
  exact Evt_t2 (int_lt hi5) (StE.chk (by first | exact idx_ok (by omega) | exact idx_ok (by have hq := len_eq (by assumption); omega) | exact idx_found (show (0 : Int) ≤ (i3 : Int) by simp_all) | exact cut_ok (by omega) | exact or_ok (idx_ok (by omega)) | (refine or1 (fun hz => pre_ok (by simp at hz; omega) (by omega) (by omega))) | exact pre_ok (by omega) (by omega) (by omega) | (simp_all [idxOk, cutOk, leB]; done) | (simp_all [idxOk, cutOk, leB]; omega) | (simp [idxOk, cutOk, leB] at *; omega) | (simp_all [idxOk, impl_TxFault_1_v]; omega) | (have hf0 := h_x0.2.2.1.1; have hf1 := h_x0.2.2.2.1; simp only [leB, decide_eq_true_eq, List.length_append, List.length_cons, List.length_nil]; omega)) (StE.bind (impl_outFault_ev (gt x0.fOuts (i3 : Int)) ((h_x0.2.2.2).2 _ (gt_mem (by first | omega | (have hq := len_eq (by assumption); omega) | (simp_all [idxOk, impl_TxFault_1_v]; omega) | (have hf0 := h_x0.2.2.1.1; have hf1 := h_x0.2.2.2.1; simp only [leB, decide_eq_true_eq, List.length_append, List.length_cons, List.length_nil]; omega))))) (StE.ifh (fun hc4 => (StE.ret _)) (fun hc4 => StE.next))))) (fun j hj => by
  simp only [impl_TxFault.l1_s]
  exact Evt.f (ge_lt hj) (Evt.self _))) (fun _ => rfl) (Evt.chk (by first | exact idx_ok (by omega) | exact idx_ok (by have hq := len_eq (by assumption); omega) | exact idx_found (by simp_all) | exact cut_ok (by omega) | exact or_ok (idx_ok (by omega)) | (refine or1 (fun hz => pre_ok (by simp at hz; omega) (by omega) (by omega))) | exact pre_ok (by omega) (by omega) (by omega) | (simp_all [idxOk, cutOk, leB]; done) | (simp_all [idxOk, cutOk, leB]; omega) | (simp [idxOk, cutOk, leB] at *; omega) | (simp_all [idxOk, impl_TxFault_1_v]; omega) | (have hf0 := h_x0.2.2.1.1; have hf1 := h_x0.2.2.2.1; simp only [leB, decide_eq_true_eq, List.length_append, List.length_cons, List.length_nil]; omega)) (Evt.ifh (fun hc5 => (Evt.self _)) (fun hc5 => (Evt.self _))))))))))))))))
def impl_findCoin_1_v (x0 : Coin) (x1 : Ref) : Int := (impl_compareRefs_v x0.fRef x1)
theorem impl_findCoin_1_ev (x0 : Coin) (x1 : Ref) (h_x0 : smCoin x0) : Evt (fun k => impl_findCoin_1.f k x0 x1) (impl_findCoin_1_v x0 x1) :=
  (Evt.bind (impl_compareRefs_ev x0.fRef x1) (Evt.self _))
/-! ### Search in a row that rises -/
def bsI (q : Nat → Bool) : Nat → Nat → Nat → Nat
  | 0, i, _ => i
  | m + 1, i, j => bif decide (i < j) then (bif q ((i + j) / 2) then bsI q m ((i + j) / 2 + 1) j else bsI q m i ((i + j) / 2)) else i
theorem mid_eq {i j : Nat} (h1 : i < j) (h2 : j ≤ 1048576) : wrap64 ((IntKind.u64.wrap (wrap64 ((i : Int) + (j : Int)))) / 2 ^ ((1 : Int)).toNat) = (((i + j) / 2 : Nat) : Int) := by
  have e1 : wrap64 ((i : Int) + (j : Int)) = (i : Int) + j := wrap64_in _ (by omega)
  have e2 : IntKind.u64.wrap ((i : Int) + j) = (i : Int) + j := u64_in _ (by omega)
  have e3 : (2 : Int) ^ ((1 : Int)).toNat = 2 := by decide
  rw [e1, e2, e3]
  have e4 : ((i : Int) + j) / 2 = (((i + j) / 2 : Nat) : Int) := by omega
  rw [e4]
  exact wrap64_in _ (by omega)
theorem Evt.bs {L : Nat → Int → Int → Option Int} (n : Nat) (q : Nat → Bool)
    (step : ∀ i j : Nat, i < j → j ≤ n → ∀ r, (q ((i + j) / 2) = true → Evt (fun k => L k (((i + j) / 2 + 1 : Nat) : Int) (j : Int)) r) → (q ((i + j) / 2) = false → Evt (fun k => L k (i : Int) (((i + j) / 2 : Nat) : Int)) r) → Evt (fun k => L (k + 1) (i : Int) (j : Int)) r)
    (done : ∀ i j : Nat, j ≤ i → Evt (fun k => L (k + 1) (i : Int) (j : Int)) (i : Int)) : Evt (fun k => L k 0 (n : Int)) ((bsI q n 0 n : Nat) : Int) := by
  have key : ∀ m i j : Nat, j ≤ i + m → j ≤ n → Evt (fun k => L k (i : Int) (j : Int)) ((bsI q m i j : Nat) : Int) := by
    intro m
    induction m with
    | zero => intro i j h _; exact Evt.s (done i j (by omega))
    | succ m ih =>
      intro i j h hj
      refine Evt.s ?_
      unfold bsI
      by_cases hlt : i < j
      · rw [decide_eq_true hlt]
        refine step i j hlt hj _ (fun hq => ?_) (fun hq => ?_)
        · rw [hq]; exact ih _ _ (by omega) hj
        · rw [hq]; exact ih _ _ (by omega) (by omega)
      · rw [decide_eq_false hlt]; exact done i j (by omega)
  exact key n 0 n (by omega) (Nat.le_refl _)
theorem bsI_spec (q : Nat → Bool) (n : Nat) (mono : ∀ a b, a ≤ b → b < n → q b = true → q a = true) :
    bsI q n 0 n ≤ n ∧ (∀ i, i < bsI q n 0 n → q i = true) ∧ (∀ i, bsI q n 0 n ≤ i → i < n → q i = false) := by
  have key : ∀ m i j : Nat, j ≤ i + m → i ≤ j → j ≤ n → (∀ a, a < i → q a = true) → (∀ a, j ≤ a → a < n → q a = false) →
      bsI q m i j ≤ n ∧ (∀ a, a < bsI q m i j → q a = true) ∧ (∀ a, bsI q m i j ≤ a → a < n → q a = false) := by
    intro m
    induction m with
    | zero =>
      intro i j h hij hj h1 h2
      have : i = j := by omega
      subst this
      exact ⟨hj, h1, h2⟩
    | succ m ih =>
      intro i j h hij hj h1 h2
      unfold bsI
      by_cases hlt : i < j
      · rw [decide_eq_true hlt]
        cases hq : q ((i + j) / 2)
        · exact ih _ _ (by omega) (by omega) (by omega) h1 fun a ha hn => by
            cases hqa : q a
            · rfl
            · rw [mono _ a ha hn hqa] at hq; cases hq
        · exact ih _ _ (by omega) (by omega) hj (fun a ha => mono a _ (by omega) (by omega) hq) h2
      · rw [decide_eq_false hlt]
        have : i = j := by omega
        subst this
        exact ⟨hj, h1, h2⟩
  exact key n 0 n (by omega) (by omega) (Nat.le_refl _) (fun a ha => by omega) (fun a ha hn => by omega)
theorem fs_none {β : Type} {p : Nat → Option β} : ∀ {l : List Nat}, (∀ i ∈ l, p i = none) → l.findSome? p = none
  | [], _ => rfl
  | i :: l, h => by rw [List.findSome?_cons, h i (List.mem_cons_self ..)]; exact fs_none fun j hj => h j (List.mem_cons_of_mem _ hj)
theorem fs_first {β : Type} {p : Nat → Option β} {x : β} : ∀ (d i B : Nat), i ≤ B → B < i + d → (∀ j, i ≤ j → j < B → p j = none) → p B = some x → (List.range' i d).findSome? p = some x
  | 0, i, B, h1, h2, _, _ => by omega
  | d + 1, i, B, h1, h2, h3, h4 => by
    rw [List.range'_succ, List.findSome?_cons]
    by_cases e : i = B
    · subst e; rw [h4]
    · rw [h3 i (Nat.le_refl _) (by omega)]
      exact fs_first d (i + 1) B (by omega) (by omega) (fun j hj => h3 j (by omega)) h4
/-- The search by halves finds what the search in turn finds. -/
theorem bs_find (n : Nat) (c : Nat → Int) (mono : ∀ a b, a ≤ b → b < n → c b < 0 → c a < 0) (str : ∀ a b, a < b → b < n → c b = 0 → c a < 0) (d : Int) :
    (List.range' 0 (n - 0)).findSome? (fun i => bif c i == 0 then some (i : Int) else none) =
      bif decide (((bsI (fun i => decide (c i < 0)) n 0 n : Nat) : Int) < (n : Int)) && ((bif decide (((bsI (fun i => decide (c i < 0)) n 0 n : Nat) : Int) < (n : Int)) then c (bsI (fun i => decide (c i < 0)) n 0 n) else d) == 0) then some ((bsI (fun i => decide (c i < 0)) n 0 n : Nat) : Int) else none := by
  obtain ⟨h1, h2, h3⟩ := bsI_spec (fun i => decide (c i < 0)) n (fun a b h hb hq => by simp at hq ⊢; exact mono a b h hb hq)
  generalize bsI (fun i => decide (c i < 0)) n 0 n = B at *
  by_cases hB : B < n
  · rw [decide_eq_true (show (B : Int) < (n : Int) by omega)]
    simp only [Bool.true_and, cond_true]
    by_cases h0 : c B = 0
    · rw [h0]
      refine fs_first (n - 0) 0 B (Nat.zero_le _) (by omega) (fun j _ hj => ?_) (by rw [h0]; rfl)
      have := h2 j hj
      simp at this
      have : (c j == 0) = false := by simp; omega
      rw [this]; rfl
    · have e0 : (c B == 0) = false := by simp [h0]
      rw [e0]
      refine fs_none fun i hi => ?_
      obtain ⟨j, hj, rfl⟩ := List.mem_range'.1 hi
      have e : (c (0 + 1 * j) == 0) = false := by
        simp only [beq_eq_false_iff_ne, ne_eq]
        intro hc
        rcases Nat.lt_trichotomy (0 + 1 * j) B with h | h | h
        · have := h2 _ h; simp at this; simp at hc; omega
        · rw [h] at hc; exact h0 hc
        · have h4 := str B _ h (by omega) hc
          have h5 := h3 B (Nat.le_refl _) hB
          simp at h5; omega
      rw [e]; rfl
  · rw [decide_eq_false (show ¬ (B : Int) < (n : Int) by omega)]
    refine fs_none fun i hi => ?_
    obtain ⟨j, hj, rfl⟩ := List.mem_range'.1 hi
    have h4 := h2 (0 + 1 * j) (by omega)
    simp only [decide_eq_true_eq] at h4
    have e : (c (0 + 1 * j) == 0) = false := by simp only [beq_eq_false_iff_ne, ne_eq]; omega
    rw [e]; rfl
def slices_BinarySearchFunc_impl_Coin_v (x0 : List Coin) (x1 : Ref) : Int × Bool := (((bsI (fun i => decide (impl_findCoin_1_v (gt x0 (i : Int)) x1 < 0)) x0.length 0 x0.length : Nat) : Int), (decide (((bsI (fun i => decide (impl_findCoin_1_v (gt x0 (i : Int)) x1 < 0)) x0.length 0 x0.length : Nat) : Int) < (x0.length : Int)) && ((bif decide (((bsI (fun i => decide (impl_findCoin_1_v (gt x0 (i : Int)) x1 < 0)) x0.length 0 x0.length : Nat) : Int) < (x0.length : Int)) then impl_findCoin_1_v (gt x0 ((bsI (fun i => decide (impl_findCoin_1_v (gt x0 (i : Int)) x1 < 0)) x0.length 0 x0.length : Nat) : Int)) x1 else default) == 0)))
theorem slices_BinarySearchFunc_impl_Coin_ev (x0 : List Coin) (x1 : Ref) (h_x0 : ((Lm smCoin)) x0) : Evt (fun k => slices_BinarySearchFunc_impl_Coin.f k x0 x1) (slices_BinarySearchFunc_impl_Coin_v x0 x1) := by
  have hn := h_x0.1
  refine Evt.bind (Evt.bs (L := fun k i j => slices_BinarySearchFunc_impl_Coin.l0 x0 x1 k i j) x0.length (fun i => decide (impl_findCoin_1_v (gt x0 (i : Int)) x1 < 0)) (fun i j h1 h2 r ht hf => ?_) (fun i j h => ?_)) ?_
  · simp only [slices_BinarySearchFunc_impl_Coin.l0_s, mid_eq h1 (Nat.le_trans h2 hn)]
    refine Evt.t (by simp; omega) (Evt.chk rfl (Evt.chk (idx_ok (by omega)) (Evt.bind (impl_findCoin_1_ev (gt x0 _) x1 (h_x0.2 _ (gt_mem (by omega)))) (Evt.cases (fun hq => ?_) (fun hq => ?_)))))
    · rw [w64 (n := x0.length) (by omega) (by omega)]; exact ht hq
    · exact hf hq
  · simp only [slices_BinarySearchFunc_impl_Coin.l0_s]
    exact Evt.f (by simp; omega) (Evt.self _)
  · refine Evt.chk (or1 fun hz => idx_ok (by simp at hz; omega)) (Evt.bind (Evt.ifh (fun hz => impl_findCoin_1_ev (gt x0 _) x1 (h_x0.2 _ (gt_mem (by simp at hz; omega)))) (fun _ => Evt.self _)) (Evt.self _))
def impl_findCoin_v (x0 : List Coin) (x1 : Ref) : Int × Bool := ((slices_BinarySearchFunc_impl_Coin_v x0 x1).1, (slices_BinarySearchFunc_impl_Coin_v x0 x1).2)
theorem impl_findCoin_ev (x0 : List Coin) (x1 : Ref) (h_x0 : (Lm smCoin) x0) : Evt (fun k => impl_findCoin.f k x0 x1) (impl_findCoin_v x0 x1) :=
  (Evt.bind (slices_BinarySearchFunc_impl_Coin_ev x0 x1 (h_x0)) (Evt.self _))
theorem findCoin_in (x0 : List Coin) (x1 : Ref) (h : (!(impl_findCoin_v x0 x1).2) = false) : idxOk (impl_findCoin_v x0 x1).1 x0.length = true := by
  have h2 : (impl_findCoin_v x0 x1).2 = true := notF h
  have h3 : (decide ((impl_findCoin_v x0 x1).1 < (x0.length : Int))) = true := by
    have : (decide ((impl_findCoin_v x0 x1).1 < (x0.length : Int)) && _) = true := h2
    exact (Bool.and_eq_true _ _ ▸ this).1
  unfold idxOk
  rw [Bool.and_eq_true]
  exact ⟨by show decide (0 ≤ ((_ : Nat) : Int)) = true; simp, h3⟩
def slices_Clone_int64_v (x0 : List Int) : (List Int) := (([] : List Int) ++ x0)
theorem slices_Clone_int64_ev (x0 : List Int) (h_x0 : (Lm tr) x0) : Evt (fun k => slices_Clone_int64.f k x0) (slices_Clone_int64_v x0) :=
  (Evt.chk (by first | exact idx_ok (by omega) | exact idx_ok (by have hq := len_eq (by assumption); omega) | exact idx_found (by simp_all) | exact cut_ok (by omega) | exact or_ok (idx_ok (by omega)) | (refine or1 (fun hz => pre_ok (by simp at hz; omega) (by omega) (by omega))) | exact pre_ok (by omega) (by omega) (by omega) | (simp_all [idxOk, cutOk, leB]; done) | (simp_all [idxOk, cutOk, leB]; omega) | (simp [idxOk, cutOk, leB] at *; omega) | (have hf0 := h_x0.1; simp only [leB, decide_eq_true_eq, List.length_append, List.length_cons, List.length_nil]; omega)) (Evt.self _))
def impl_ownRule_v (x0 : Rule) : Rule := (⟨(slices_Clone_int64_v x0.fKeys), x0.fNeed, x0.fAfter⟩ : Rule)
theorem impl_ownRule_ev (x0 : Rule) (h_x0 : smRule x0) : Evt (fun k => impl_ownRule.f k x0) (impl_ownRule_v x0) :=
  (Evt.bind (slices_Clone_int64_ev x0.fKeys (h_x0.1)) (Evt.self _))
def impl_ownOut_v (x0 : Out) : Out := (⟨x0.fValue, (impl_ownRule_v x0.fRule)⟩ : Out)
theorem impl_ownOut_ev (x0 : Out) (h_x0 : smOut x0) : Evt (fun k => impl_ownOut.f k x0) (impl_ownOut_v x0) :=
  (Evt.bind (impl_ownRule_ev x0.fRule (h_x0.2)) (Evt.self _))
def impl_ownCoins_v (x0 : List Coin) : (List Coin) := ((List.range' 0 (x0.length - 0)).foldl (fun ac1 (i0 : Nat) => ((ac1 ++ ([(⟨(gt x0 (i0 : Int)).fRef, (impl_ownOut_v ((gt x0 (i0 : Int)).fOut)), (gt x0 (i0 : Int)).fHeight, (gt x0 (i0 : Int)).fMined⟩ : Coin)] : List Coin)))) ([] : List Coin))
theorem impl_ownCoins_ev (x0 : List Coin) (h_x0 : (Lm smCoin) x0) : Evt (fun k => impl_ownCoins.f k x0) (impl_ownCoins_v x0) :=
  (Evt.bind (Evt.gatherL (L := (fun k ac i => impl_ownCoins.l0 x0 k ac i)) x0.length (by have := h_x0; first | (have := this.1; omega) | omega) (fun ac1 (i0 : Nat) => ((ac1 ++ ([(⟨(gt x0 (i0 : Int)).fRef, (impl_ownOut_v ((gt x0 (i0 : Int)).fOut)), (gt x0 (i0 : Int)).fHeight, (gt x0 (i0 : Int)).fMined⟩ : Coin)] : List Coin)))) (fun i0 hi1 ac1 hgl => (by first | (simp only [List.length_append, List.length_cons, List.length_nil]; omega) | omega)) (fun i0 hi1 ac1 hgl o hg => by
  have hbn : x0.length ≤ 1048576 := (by have := h_x0; first | (have := this.1; omega) | omega)
  simp only [impl_ownCoins.l0_s]
  exact Evt.t (int_lt hi1) (Evt.chk (by first | (simp only [leB, decide_eq_true_eq, List.length_append, List.length_cons, List.length_nil]; omega) | exact idx_ok (by omega) | exact idx_ok (by have hq := len_eq (by assumption); omega) | exact idx_found (by simp_all) | exact cut_ok (by omega) | exact or_ok (idx_ok (by omega)) | (refine or1 (fun hz => pre_ok (by simp at hz; omega) (by omega) (by omega))) | exact pre_ok (by omega) (by omega) (by omega) | (simp_all [idxOk, cutOk, leB]; done) | (simp_all [idxOk, cutOk, leB]; omega) | (simp [idxOk, cutOk, leB] at *; omega) | (have hf0 := h_x0.1; simp only [leB, decide_eq_true_eq, List.length_append, List.length_cons, List.length_nil]; omega)) (Evt.bind (impl_ownOut_ev ((gt x0 (i0 : Int)).fOut) (((h_x0).2 _ (gt_mem (by first | omega | (have hq := len_eq (by assumption); omega) | (have hf0 := h_x0.1; simp only [leB, decide_eq_true_eq, List.length_append, List.length_cons, List.length_nil]; omega)))).2.1)) (Evt.chk (by first | (simp only [leB, decide_eq_true_eq, List.length_append, List.length_cons, List.length_nil]; omega) | exact idx_ok (by omega) | exact idx_ok (by have hq := len_eq (by assumption); omega) | exact idx_found (by simp_all) | exact cut_ok (by omega) | exact or_ok (idx_ok (by omega)) | (refine or1 (fun hz => pre_ok (by simp at hz; omega) (by omega) (by omega))) | exact pre_ok (by omega) (by omega) (by omega) | (simp_all [idxOk, cutOk, leB]; done) | (simp_all [idxOk, cutOk, leB]; omega) | (simp [idxOk, cutOk, leB] at *; omega) | (have hf0 := h_x0.1; simp only [leB, decide_eq_true_eq, List.length_append, List.length_cons, List.length_nil]; omega)) hg)))) (fun j ac hj => by
  simp only [impl_ownCoins.l0_s]
  exact Evt.f (ge_lt hj) (Evt.self _))) (Evt.self _))
theorem ownRule_id (r : Rule) : impl_ownRule_v r = r := by simp [impl_ownRule_v, slices_Clone_int64_v]
theorem ownOut_id (x : Out) : impl_ownOut_v x = x := by simp [impl_ownOut_v, ownRule_id]
theorem ownCoins_id (x0 : List Coin) : impl_ownCoins_v x0 = x0 := by
  have h := range_foldl x0 (fun ac (x : Coin) => ac ++ [(⟨x.fRef, impl_ownOut_v x.fOut, x.fHeight, x.fMined⟩ : Coin)]) []
  refine Eq.trans h ?_
  rw [fold_map]
  simp only [ownOut_id]
  simp
def impl_sorted_1_v (x0 : Coin) (x1 : Coin) : Int := (impl_compareRefs_v x0.fRef x1.fRef)
theorem impl_sorted_1_ev (x0 : Coin) (x1 : Coin) (h_x0 : smCoin x0) (h_x1 : smCoin x1) : Evt (fun k => impl_sorted_1.f k x0 x1) (impl_sorted_1_v x0 x1) :=
  (Evt.bind (impl_compareRefs_ev x0.fRef x1.fRef) (Evt.self _))
def slices_SortFunc_Coin_v (x0 : List Coin) : List Coin := x0.mergeSort refLe
theorem sortFunc_ev (x0 : List Coin) (hn : x0.length ≤ 1000000) (hd : (x0.map refKey).Nodup) : Evt (fun k => slices_SortFunc_Coin.f k x0) (x0.mergeSort refLe) := by
  refine Evt.chk ?_ (Evt.self _)
  rw [leB_of hn, decide_eq_true hd]; rfl
theorem sort_len (x0 : List Coin) : (x0.mergeSort refLe).length = x0.length := (List.mergeSort_perm x0 refLe).length_eq
theorem sorted_ev (x0 : List Coin) (hn : x0.length ≤ 1000000) (hd : (x0.map refKey).Nodup) : Evt (fun k => impl_sorted.f k x0) (x0.mergeSort refLe) := Evt.bind (sortFunc_ev x0 hn hd) (Evt.self _)
theorem findCoin_key (x0 : List Coin) (x1 : Ref) (rise : ∀ a b : Nat, a < b → b < x0.length → lexL (gt x0 (a : Int)).fRef (gt x0 (b : Int)).fRef) : (List.range' 0 (x0.length - 0)).findSome? (fun i : Nat => bif (((gt x0 (i : Int)).fRef.fTx == x1.fTx) && ((gt x0 (i : Int)).fRef.fAt == x1.fAt)) then some (i : Int) else none) = bif (impl_findCoin_v x0 x1).2 then some (impl_findCoin_v x0 x1).1 else none := by
  have hc0 : ∀ i : Nat, impl_findCoin_1_v (gt x0 (i : Int)) x1 = 0 ↔ (gt x0 (i : Int)).fRef.fTx = x1.fTx ∧ (gt x0 (i : Int)).fRef.fAt = x1.fAt := fun i => compareRefs_zero _ _
  have hcl : ∀ i : Nat, impl_findCoin_1_v (gt x0 (i : Int)) x1 < 0 ↔ lexL (gt x0 (i : Int)).fRef x1 := fun i => compareRefs_lt _ _
  have key := bs_find x0.length (fun i => impl_findCoin_1_v (gt x0 (i : Int)) x1) (fun a b hab hb hlt => by
    rw [hcl] at hlt ⊢
    rcases Nat.lt_or_eq_of_le hab with h1 | h1
    · exact lex_trans (rise a b h1 hb) hlt
    · subst h1; exact hlt) (fun a b hab hb h0 => by
    rw [hc0] at h0
    rw [hcl]
    have := rise a b hab hb
    unfold lexL at *; omega) default
  have e : (fun i : Nat => bif (((gt x0 (i : Int)).fRef.fTx == x1.fTx) && ((gt x0 (i : Int)).fRef.fAt == x1.fAt)) then some (i : Int) else none) = fun i : Nat => bif impl_findCoin_1_v (gt x0 (i : Int)) x1 == 0 then some (i : Int) else none := by
    funext i
    have : (((gt x0 (i : Int)).fRef.fTx == x1.fTx) && ((gt x0 (i : Int)).fRef.fAt == x1.fAt)) = (impl_findCoin_1_v (gt x0 (i : Int)) x1 == 0) := by
      rw [Bool.eq_iff_iff, Bool.and_eq_true, beq_iff_eq, beq_iff_eq, beq_iff_eq]; exact (hc0 i).symm
    rw [this]
  rw [e, key]
  rfl
theorem ref_ext {a b : Ref} (h1 : a.fTx = b.fTx) (h2 : a.fAt = b.fAt) : a = b := by
  cases a; cases b; simp only at h1 h2; subst h1; subst h2; rfl
theorem find_yes {x0 : List Coin} {r : Ref} (h : Rise x0) (hf : (impl_findCoin_v x0 r).2 = true) : gt x0 (impl_findCoin_v x0 r).1 ∈ x0 ∧ (gt x0 (impl_findCoin_v x0 r).1).fRef = r := by
  have hk := findCoin_key x0 r h.lt
  rw [hf, cond_true] at hk
  obtain ⟨i, hi, hp⟩ := List.exists_of_findSome?_eq_some hk
  have hlt : i < x0.length := by rw [List.mem_range'_1] at hi; omega
  cases hc : (((gt x0 (i : Int)).fRef.fTx == r.fTx) && ((gt x0 (i : Int)).fRef.fAt == r.fAt))
  · rw [hc] at hp; cases hp
  · rw [hc] at hp
    rw [← Option.some.inj hp]
    rw [Bool.and_eq_true, beq_iff_eq, beq_iff_eq] at hc
    exact ⟨gt_mem hlt, ref_ext hc.1 hc.2⟩
theorem find_no {x0 : List Coin} {r : Ref} (h : Rise x0) (hf : (impl_findCoin_v x0 r).2 = false) : ∀ c ∈ x0, c.fRef ≠ r := fun c hc e => by
  have hk := findCoin_key x0 r h.lt
  rw [hf, cond_false] at hk
  obtain ⟨i, hi, rfl⟩ := List.getElem_of_mem hc
  have := fs_all hk i hi
  rw [gt_eq (by simpa using hi)] at this
  simp only [Int.toNat_natCast] at this
  rw [e] at this
  simp at this
theorem find_of {x0 : List Coin} {c : Coin} (h : Rise x0) (hc : c ∈ x0) : (impl_findCoin_v x0 c.fRef).2 = true := by
  cases hf : (impl_findCoin_v x0 c.fRef).2
  · exact absurd rfl (find_no h hf c hc)
  · rfl
theorem among_iff (xs : List Ref) (x : Ref) : spec_l3Among_v xs x = true ↔ x ∈ xs := by
  unfold spec_l3Among_v
  rw [found_any]
  constructor
  · intro h
    rw [bifb, List.any_eq_true] at h
    obtain ⟨i, hi, hp⟩ := h
    have hlt : i < xs.length := by rw [List.mem_range'_1] at hi; omega
    rw [Bool.and_eq_true, beq_iff_eq, beq_iff_eq] at hp
    have : gt xs (i : Int) = x := by
      cases hq : gt xs (i : Int); cases x
      rw [hq] at hp
      simp only at hp
      rw [hp.1, hp.2]
    rw [← this]; exact gt_mem hlt
  · intro h
    obtain ⟨i, hi, rfl⟩ := List.getElem_of_mem h
    rw [bifb, List.any_eq_true]
    refine ⟨i, by rw [List.mem_range'_1]; omega, ?_⟩
    rw [gt_eq (by simpa using hi)]
    simp
theorem nodup_of_among {xs : List Ref} (h : ∀ i, i < xs.length → spec_l3Among_v (xs.take i) (gt xs (i : Int)) = false) : xs.Nodup := by
  unfold List.Nodup
  rw [List.pairwise_iff_getElem]
  intro i j hi hj hij e
  have := h j hj
  rw [gt_eq (by simpa using hj)] at this
  simp only [Int.toNat_natCast] at this
  have hm : xs[j] ∈ xs.take j := by
    rw [← e, List.mem_take_iff_getElem]
    exact ⟨i, by omega, rfl⟩
  rw [(among_iff _ _).2 hm] at this
  cases this
theorem sub_len {α : Type} : ∀ {l m : List α}, l.Nodup → (∀ a ∈ l, a ∈ m) → l.length ≤ m.length
  | [], m, _, _ => by simp
  | a :: l, m, h, hs => by
    rw [List.nodup_cons] at h
    obtain ⟨s, t, rfl⟩ := List.append_of_mem (hs a (by simp))
    have := sub_len (m := s ++ t) h.2 (fun b hb => by
      have hb' := hs b (by simp [hb])
      rcases List.mem_append.1 hb' with hb' | hb'
      · exact List.mem_append_left _ hb'
      · rcases List.mem_cons.1 hb' with rfl | hb'
        · exact absurd hb h.1
        · exact List.mem_append_right _ hb')
    simp at this ⊢; omega
structure TxIns (t : Tx) : Prop where
  ins1 : 1 ≤ t.fIns.length
  ins4 : t.fIns.length ≤ 4
  outs1 : 1 ≤ t.fOuts.length
  outs4 : t.fOuts.length ≤ 4
  nodup : t.fIns.Nodup
  outs : ∀ o ∈ t.fOuts, spec_l4Out_v o = 0
theorem tx_ins (x0 : Tx) (h0 : spec_l3Fault_v x0 = 0) : TxIns x0 := by
  unfold spec_l3Fault_v at h0
  cases hc : ((!(spec_l1In_v x0.fKind 0 2)) || ((x0.fKind == 0) != (x0.fMember == 0)))
  · rw [hc] at h0
    cases hd : ((x0.fKind != 0) && (!(bif (x0.fKind != 0) then (spec_l1Key_v x0.fMember) else default)))
    · rw [hd] at h0
      cases he : ((!(spec_l1In_v (x0.fIns.length : Int) 1 4)) || (!(bif (!(!(spec_l1In_v (x0.fIns.length : Int) 1 4))) then (spec_l1In_v (x0.fOuts.length : Int) 1 4) else default)))
      · rw [he] at h0
        have h1 : onO ((List.range' 0 (x0.fIns.length - 0)).findSome? (fun (i0 : Nat) => (bif !(spec_l3Ref_v (gt x0.fIns (i0 : Int))) then (some (3 : Int)) else (bif (spec_l3Among_v (x0.fIns.take ((i0 : Int)).toNat) (gt x0.fIns (i0 : Int))) then (some 7) else none)))) (fun r => r) (spec_l3Outs_v x0) = 0 := h0
        obtain ⟨h2, h3⟩ := onO_zero h1 (fun i => by
          cases spec_l3Ref_v (gt x0.fIns (i : Int))
          · simp
          · cases spec_l3Among_v (x0.fIns.take ((i : Int)).toNat) (gt x0.fIns (i : Int)) <;> simp)
        have hk := fs_all h2
        unfold spec_l3Outs_v at h3
        obtain ⟨h4, _⟩ := onO_zero h3 (fun i => by
          cases spec_l1In_v ((gt x0.fOuts (i : Int)).fValue) 1 1000000
          · simp
          · cases hq : spec_l2Fault_v ((gt x0.fOuts (i : Int)).fRule) != 0
            · simp
            · simp only [Bool.not_true, cond_false, cond_true]
              intro e
              rw [Option.some.inj e] at hq; cases hq)
        have hl := fs_all h4
        simp only [spec_l1In_v, Bool.or_eq_false_iff, Bool.not_eq_false', Bool.and_eq_true, decide_eq_true_eq] at he
        obtain ⟨he1, he2⟩ := he
        have he3 : 1 ≤ (x0.fOuts.length : Int) ∧ (x0.fOuts.length : Int) ≤ 4 := by
          have e : (decide (1 ≤ (x0.fIns.length : Int)) && decide ((x0.fIns.length : Int) ≤ 4)) = true := by rw [Bool.and_eq_true, decide_eq_true_eq, decide_eq_true_eq]; exact he1
          rw [e] at he2
          have he2' : (decide (1 ≤ (x0.fOuts.length : Int)) && decide ((x0.fOuts.length : Int) ≤ 4)) = true := he2
          rwa [Bool.and_eq_true, decide_eq_true_eq, decide_eq_true_eq] at he2'
        refine ⟨by omega, by omega, by omega, by omega, nodup_of_among fun i hi => ?_, fun o ho => ?_⟩
        · have h5 := hk i hi
          cases hr : spec_l3Ref_v (gt x0.fIns (i : Int))
          · rw [hr] at h5; cases h5
          · rw [hr] at h5
            simp only [Int.toNat_natCast, Bool.not_true, cond_false] at h5
            cases ha : spec_l3Among_v (x0.fIns.take i) (gt x0.fIns (i : Int))
            · rfl
            · rw [ha] at h5; cases h5
        · obtain ⟨i, hi, rfl⟩ := List.getElem_of_mem ho
          have h5 := hl i hi
          rw [gt_eq (by simpa using hi)] at h5
          simp only [Int.toNat_natCast] at h5
          unfold spec_l4Out_v
          cases h6 : spec_l1In_v x0.fOuts[i].fValue 1 1000000
          · rw [h6] at h5; cases h5
          · rw [h6] at h5
            cases h7 : spec_l2Fault_v x0.fOuts[i].fRule != 0
            · simpa using h7
            · rw [h7] at h5; cases h5
      · rw [he] at h0; exact absurd (show (2 : Int) = 0 from h0) (by decide)
    · rw [hd] at h0; exact absurd (show (3 : Int) = 0 from h0) (by decide)
  · rw [hc] at h0; exact absurd (show (1 : Int) = 0 from h0) (by decide)
def cnd (x0 : List Coin) (r : Ref) : Coin := gt x0 (impl_findCoin_v x0 r).1
theorem spent_filter (x0 : List Coin) (ins : List Ref) : (List.range' 0 (x0.length - 0)).foldl (fun ac1 (i0 : Nat) => (bif (spec_l3Among_v ins ((gt x0 (i0 : Int)).fRef)) then ((ac1 ++ ([(gt x0 (i0 : Int))] : List Coin))) else (ac1))) ([] : List Coin) = x0.filter (fun c => spec_l3Among_v ins c.fRef) := by
  have h := range_foldl x0 (fun ac (c : Coin) => bif spec_l3Among_v ins c.fRef then ac ++ [c] else ac) []
  refine Eq.trans h ?_
  have key : ∀ (xs ac : List Coin), xs.foldl (fun ac (c : Coin) => bif spec_l3Among_v ins c.fRef then ac ++ [c] else ac) ac = ac ++ xs.filter (fun c => spec_l3Among_v ins c.fRef) := by
    intro xs
    induction xs with
    | nil => intro ac; simp
    | cons a xs ih =>
      intro ac
      rw [List.foldl_cons, ih, List.filter_cons]
      cases spec_l3Among_v ins a.fRef <;> simp
  rw [key]; simp
def spentOf (x0 : List Coin) (ins : List Ref) : List Coin := x0.filter (fun c => spec_l3Among_v ins c.fRef)
theorem spent_mem {x0 : List Coin} {ins : List Ref} {c : Coin} (h : c ∈ spentOf x0 ins) : c ∈ x0 := (List.mem_filter.1 h).1
theorem spent_rise {x0 : List Coin} (h : Rise x0) (ins : List Ref) : Rise (spentOf x0 ins) := h.sub List.filter_sublist
theorem rise_nodup {xs : List Coin} (h : Rise xs) : xs.Nodup ∧ (xs.map (·.fRef)).Nodup := by
  refine ⟨h.2.imp fun {a b} hab e => ?_, ?_⟩
  · subst e; unfold lexL at hab; omega
  · unfold List.Nodup
    rw [List.pairwise_map]
    refine h.2.imp fun {a b} hab e => ?_
    rw [e] at hab; unfold lexL at hab; omega
theorem spent_perm {x0 : List Coin} (h : Rise x0) {ins : List Ref} (hn : ins.Nodup) (hall : ∀ r ∈ ins, (impl_findCoin_v x0 r).2 = true) : (ins.map (cnd x0)).Perm (spentOf x0 ins) := by
  have hmap : (ins.map (cnd x0)).map (·.fRef) = ins := by
    rw [List.map_map]
    conv => rhs; rw [← List.map_id ins]
    exact List.map_congr_left fun r hr => (find_yes h (hall r hr)).2
  have hn1 : (ins.map (cnd x0)).Nodup := by
    have : ((ins.map (cnd x0)).map (·.fRef)).Nodup := by rw [hmap]; exact hn
    unfold List.Nodup at this ⊢
    rw [List.pairwise_map] at this
    exact this.imp fun hab e => hab (by rw [e])
  rw [List.perm_ext_iff_of_nodup hn1 (rise_nodup (spent_rise h ins)).1]
  intro c
  constructor
  · intro hc
    obtain ⟨r, hr, rfl⟩ := List.mem_map.1 hc
    obtain ⟨h1, h2⟩ := find_yes h (hall r hr)
    unfold spentOf
    rw [List.mem_filter]
    exact ⟨h1, (among_iff _ _).2 (by show (gt x0 (impl_findCoin_v x0 r).1).fRef ∈ ins; rw [h2]; exact hr)⟩
  · intro hc
    unfold spentOf at hc
    rw [List.mem_filter] at hc
    have hr := (among_iff _ _).1 hc.2
    obtain ⟨h1, h2⟩ := find_yes h (hall _ hr)
    refine List.mem_map.2 ⟨c.fRef, hr, ?_⟩
    have hk := rise_keys h.2
    exact key_inj hk _ h1 c hc.1 (by show ((gt x0 (impl_findCoin_v x0 c.fRef).1).fRef.fTx, (gt x0 (impl_findCoin_v x0 c.fRef).1).fRef.fAt) = (c.fRef.fTx, c.fRef.fAt); rw [h2])
theorem spent_len {x0 : List Coin} (h : Rise x0) {ins : List Ref} (hn : ins.Nodup) : (((spentOf x0 ins).length : Int) == (ins.length : Int)) = ins.all (fun r => (impl_findCoin_v x0 r).2) := by
  cases ha : ins.all (fun r => (impl_findCoin_v x0 r).2)
  · have hex : ∃ r ∈ ins, (impl_findCoin_v x0 r).2 = false := by
      rw [List.all_eq_false] at ha
      obtain ⟨r, hr, hf⟩ := ha
      exact ⟨r, hr, by simpa using hf⟩
    obtain ⟨r, hr, hf⟩ := hex
    have hno := find_no h hf
    have hl : (r :: (spentOf x0 ins).map (·.fRef)).length ≤ ins.length := sub_len (by
      rw [List.nodup_cons]
      refine ⟨fun hm => ?_, (rise_nodup (spent_rise h ins)).2⟩
      obtain ⟨c, hc, e⟩ := List.mem_map.1 hm
      exact hno c (spent_mem hc) e) (fun a ham => by
      rcases List.mem_cons.1 ham with rfl | ham
      · exact hr
      · obtain ⟨c, hc, rfl⟩ := List.mem_map.1 ham
        unfold spentOf at hc
        rw [List.mem_filter] at hc
        exact (among_iff _ _).1 hc.2)
    rw [List.length_cons, List.length_map] at hl
    simp; omega
  · have hall : ∀ r ∈ ins, (impl_findCoin_v x0 r).2 = true := fun r hr => List.all_eq_true.1 ha r hr
    have := (spent_perm h hn hall).length_eq
    rw [List.length_map] at this
    rw [this]; simp
theorem spent_loop (x0 : List Coin) (x1 : Tx) (h_x0 : Lm smCoin x0) (hn : x1.fIns.length ≤ 1048576) : ∀ (d i : Nat) (s : List Coin), i + d = x1.fIns.length → s.length ≤ i → Evt (fun k => impl_spentBy.l0 x0 x1 k s (i : Int)) (bif (x1.fIns.drop i).all (fun r => (impl_findCoin_v x0 r).2) then .inr (s ++ (x1.fIns.drop i).map (cnd x0)) else .inl ([], 4))
  | 0, i, s, hi, hs => by
    refine Evt.s ?_
    simp only [impl_spentBy.l0_s]
    rw [List.drop_of_length_le (by omega)]
    exact Evt.f (ge_lt (by omega)) (Evt.ret (by simp))
  | d + 1, i, s, hi, hs => by
    have hlt : i < x1.fIns.length := by omega
    have hg : gt x1.fIns (i : Int) = x1.fIns[i] := gt_eq (by simpa using hlt)
    have ed : x1.fIns.drop i = x1.fIns[i] :: x1.fIns.drop (i + 1) := List.drop_eq_getElem_cons hlt
    refine Evt.s ?_
    simp only [impl_spentBy.l0_s, hg]
    rw [ed, List.all_cons, List.map_cons]
    refine Evt.t (int_lt hlt) (Evt.chk (idx_ok hlt) (Evt.bind (impl_findCoin_ev x0 x1.fIns[i] h_x0) ?_))
    cases hf : (impl_findCoin_v x0 x1.fIns[i]).2
    · exact Evt.t rfl (Evt.ret (by simp))
    · have hin := findCoin_in x0 x1.fIns[i] (by rw [hf]; rfl)
      refine Evt.f rfl (Evt.chk hin (Evt.chk (leB_of (by simp; omega)) ?_))
      rw [w64 hlt (by omega)]
      refine (spent_loop x0 x1 h_x0 hn d (i + 1) _ (by omega) (by simp; omega)).to ?_
      rw [Bool.true_and]
      simp only [List.append_assoc, List.cons_append, List.nil_append]
      rfl
def impl_spentBy_v (x0 : List Coin) (x1 : Tx) : (List Coin) × Int := bif x1.fIns.all (fun r => (impl_findCoin_v x0 r).2) then (spentOf x0 x1.fIns, 0) else ([], 4)
theorem impl_spentBy_ev (x0 : List Coin) (x1 : Tx) (h_x0 : Lm smCoin x0) (h_x1 : smTx x1) (hr : Rise x0) (ht : spec_l3Fault_v x1 = 0) : Evt (fun k => impl_spentBy.f k x0 x1) (impl_spentBy_v x0 x1) := by
  have hti := tx_ins x1 ht
  have hl := spent_loop x0 x1 h_x0 (by have := hti.ins4; omega) x1.fIns.length 0 [] (by omega) (by simp)
  rw [List.drop_zero, List.nil_append] at hl
  unfold impl_spentBy_v
  cases ha : x1.fIns.all (fun r => (impl_findCoin_v x0 r).2)
  · rw [ha] at hl
    exact Evt.bind hl (Evt.self _)
  · rw [ha] at hl
    have hall : ∀ r ∈ x1.fIns, (impl_findCoin_v x0 r).2 = true := fun r hr => List.all_eq_true.1 ha r hr
    have hp := spent_perm hr hti.nodup hall
    have hsl : (x1.fIns.map (cnd x0)).length ≤ 4 := by rw [List.length_map]; exact hti.ins4
    have hsm : Lm smCoin (x1.fIns.map (cnd x0)) := ⟨by omega, fun c hc => h_x0.2 c (spent_mem (hp.mem_iff.1 hc))⟩
    have eo := impl_ownCoins_ev _ hsm
    rw [ownCoins_id] at eo
    have hs := sort_uniq hp.symm (spent_rise hr x1.fIns).2
    have es := sorted_ev (x1.fIns.map (cnd x0)) (by omega) (((hp.map refKey).nodup_iff).2 (rise_keys (spent_rise hr x1.fIns).2))
    rw [hs] at es
    exact Evt.bind hl (Evt.bind eo (Evt.bind es (Evt.self _)))
def impl_hasTx_1_v (x0 : Coin) (x1 : Int) : Bool := (x0.fRef.fTx == x1)
theorem impl_hasTx_1_ev (x0 : Coin) (x1 : Int) (h_x0 : smCoin x0) : Evt (fun k => impl_hasTx_1.f k x0 x1) (impl_hasTx_1_v x0 x1) :=
  (Evt.self _)
def slices_IndexFunc_impl_Coin_v (x0 : List Coin) (x1_0 : Int) : Int := (onO ((List.range' 0 (x0.length - 0)).findSome? (fun (i0 : Nat) => (bif (impl_hasTx_1_v (gt x0 (i0 : Int)) x1_0) then (some (i0 : Int)) else none))) (fun r => r) (-1))
theorem slices_IndexFunc_impl_Coin_ev (x0 : List Coin) (x1_0 : Int) (h_x0 : (Lm smCoin) x0) : Evt (fun k => slices_IndexFunc_impl_Coin.f k x0 x1_0) (slices_IndexFunc_impl_Coin_v x0 x1_0) :=
  (Evt.loop (r' := fun r => r) (Evt.srch (L := (fun k i => slices_IndexFunc_impl_Coin.l0 x0 x1_0 k i)) 0 x0.length (by have := h_x0; first | (have := this.1; omega) | omega) (fun (i0 : Nat) => (bif (impl_hasTx_1_v (gt x0 (i0 : Int)) x1_0) then (some (i0 : Int)) else none)) (fun i0 hs2 hi2 => by
  have hbn : x0.length ≤ 9223372036854775807 := (by have := h_x0; first | (have := this.1; omega) | omega)
  simp only [slices_IndexFunc_impl_Coin.l0_s]
  exact Evt_t2 (int_lt hi2) (StE.chk (by first | exact idx_ok (by omega) | exact idx_ok (by have hq := len_eq (by assumption); omega) | exact idx_found (show (0 : Int) ≤ (i0 : Int) by simp_all) | exact cut_ok (by omega) | exact or_ok (idx_ok (by omega)) | (refine or1 (fun hz => pre_ok (by simp at hz; omega) (by omega) (by omega))) | exact pre_ok (by omega) (by omega) (by omega) | (simp_all [idxOk, cutOk, leB]; done) | (simp_all [idxOk, cutOk, leB]; omega) | (simp [idxOk, cutOk, leB] at *; omega) | (have hf0 := h_x0.1; simp only [leB, decide_eq_true_eq, List.length_append, List.length_cons, List.length_nil]; omega)) (StE.bind (impl_hasTx_1_ev (gt x0 (i0 : Int)) x1_0 ((h_x0).2 _ (gt_mem (by first | omega | (have hq := len_eq (by assumption); omega) | (have hf0 := h_x0.1; simp only [leB, decide_eq_true_eq, List.length_append, List.length_cons, List.length_nil]; omega))))) (StE.ifh (fun hc1 => (StE.ret _)) (fun hc1 => StE.next))))) (fun j hj => by
  simp only [slices_IndexFunc_impl_Coin.l0_s]
  exact Evt.f (ge_lt hj) (Evt.self _))) (fun _ => rfl) (Evt.self _))
def slices_ContainsFunc_impl_Coin_v (x0 : List Coin) (x1_0 : Int) : Bool := (decide (0 ≤ (slices_IndexFunc_impl_Coin_v x0 x1_0)))
theorem slices_ContainsFunc_impl_Coin_ev (x0 : List Coin) (x1_0 : Int) (h_x0 : (Lm smCoin) x0) : Evt (fun k => slices_ContainsFunc_impl_Coin.f k x0 x1_0) (slices_ContainsFunc_impl_Coin_v x0 x1_0) :=
  (Evt.bind (slices_IndexFunc_impl_Coin_ev x0 x1_0 (h_x0)) (Evt.self _))
theorem slices_ContainsFunc_impl_Coin_any (x0 : List Coin) (x1_0 : Int) : slices_ContainsFunc_impl_Coin_v x0 x1_0 = (List.range' 0 (x0.length - 0)).any (fun (i0 : Nat) => (impl_hasTx_1_v (gt x0 (i0 : Int)) x1_0)) := idx_any _ _
def impl_hasTx_v (x0 : List Coin) (x1 : Int) : Bool := (slices_ContainsFunc_impl_Coin_v x0 x1)
theorem impl_hasTx_ev (x0 : List Coin) (x1 : Int) (h_x0 : (Lm smCoin) x0) : Evt (fun k => impl_hasTx.f k x0 x1) (impl_hasTx_v x0 x1) :=
  (Evt.bind (slices_ContainsFunc_impl_Coin_ev x0 x1 (h_x0)) (Evt.self _))
def slices_Delete_impl_Coin_v (x0 : List Coin) (x1 : Int) (x2 : Int) : List Coin := bif (x1 == x2) then x0 else x0.take (x1).toNat ++ x0.drop (x2).toNat
theorem slices_Delete_impl_Coin_ev (x0 : List Coin) (x1 : Int) (x2 : Int) (h1 : cutOk x2 x0.length = true) (h2 : cutOk x1 (x2).toNat = true) : Evt (fun k => slices_Delete_impl_Coin.f k x0 x1 x2) (slices_Delete_impl_Coin_v x0 x1 x2) := by
  have a1 := cut_lo h2
  have a2 := cut_hi h2
  have a3 := cut_hi h1
  have a4 := cut_lo h1
  refine Evt.chk h1 (Evt.chk h2 (Evt.ifh (fun _ => Evt.self _) (fun hne => Evt.chk ?_ (Evt.chk h1 (Evt.chk h2 (Evt.chk ?_ (Evt.chk ?_ (Evt.self _))))))))
  · unfold cutOk; simp; omega
  · have h5 : x1 ≠ x2 := by simpa using hne
    simp; omega
  · rw [List.length_append, List.length_take, List.length_drop]; simp; omega
def takeG2 (out : List Coin) (r : Ref) : Option (List Coin) := bif !(impl_findCoin_v out r).2 then none else some (slices_Delete_impl_Coin_v out (impl_findCoin_v out r).1 (wrap64 ((impl_findCoin_v out r).1 + 1)))
theorem takeG2_pres (s : List Coin) (r : Ref) (t : List Coin) (hs : Lm smCoin s) (h : takeG2 s r = some t) : t.Sublist s := by
  unfold takeG2 at h
  cases hc : !(impl_findCoin_v s r).2
  · rw [hc] at h
    have h2 : slices_Delete_impl_Coin_v s (impl_findCoin_v s r).1 (wrap64 ((impl_findCoin_v s r).1 + 1)) = t := Option.some.inj h
    subst h2
    have h3 := findCoin_in s r hc
    unfold slices_Delete_impl_Coin_v
    cases (impl_findCoin_v s r).1 == wrap64 ((impl_findCoin_v s r).1 + 1)
    · exact cut_sub s (cut_hi (cut_self h3 hs.1))
    · exact List.Sublist.refl _
  · rw [hc] at h; cases h
def impl_takeCoins_v (x0 : List Coin) (x1 : List Ref) : (List Coin) × Int := match stepAll takeG2 (impl_ownCoins_v x0) x1 with
  | some t => (t, 0)
  | none => ([], 4)
theorem impl_takeCoins_ev (x0 : List Coin) (x1 : List Ref) (h_x0 : Lm smCoin x0) (h_x1 : Lm smRef x1) : Evt (fun k => impl_takeCoins.f k x0 x1) (impl_takeCoins_v x0 x1) := by
  have hn := h_x1.1
  refine Evt.bind (impl_ownCoins_ev x0 h_x0) (Evt.bind (Evt.steps (L := fun k s i => impl_takeCoins.l0 x1 k s i) x1 (by omega) (Lm smCoin) takeG2 (([] : List Coin), (4 : Int)) (fun i hi s hs o hsome hnone => ?_) (fun s r t hs h => Lm_sub hs (takeG2_pres s r t hs h)) (fun s => ?_) (impl_ownCoins_v x0) (by rw [ownCoins_id]; exact h_x0)) ?_)
  · simp only [impl_takeCoins.l0_s]
    refine Evt.t (int_lt hi) (Evt.chk (idx_ok hi) (Evt.bind (impl_findCoin_ev s _ hs) (Evt.cases (fun hc => ?_) (fun hc => ?_))))
    · exact Evt.ret (hnone (by unfold takeG2; rw [hc]; rfl)).symm
    · have h3 := findCoin_in s _ hc
      exact Evt.bind (slices_Delete_impl_Coin_ev s _ _ (cut_next h3 hs.1) (cut_self h3 hs.1)) (hsome _ (by unfold takeG2; rw [hc]; rfl))
  · simp only [impl_takeCoins.l0_s]
    exact Evt.f int_nlt (Evt.self _)
  · unfold impl_takeCoins_v
    cases stepAll takeG2 (impl_ownCoins_v x0) x1 with
    | some t => exact Evt.self _
    | none => exact Evt.self _
theorem l4Add_rise (x : Coin) : ∀ (l : List Coin), l.Pairwise (fun a b => lexL a.fRef b.fRef) → (∀ c ∈ l, refKey c ≠ refKey x) → (spec_l4Add_v l x).Pairwise (fun a b => lexL a.fRef b.fRef)
  | [], _, _ => by rw [l4Add_nil]; simp
  | c :: l, h, hx => by
    rw [List.pairwise_cons] at h
    rw [l4Add_cons]
    by_cases hc : spec_l4Ahead_v c.fRef x.fRef = true
    · rw [if_pos hc, List.pairwise_cons]
      refine ⟨fun y hy => ?_, l4Add_rise x l h.2 (fun d hd => hx d (by simp [hd]))⟩
      have hy' := (l4Add_perm x l).mem_iff.1 hy
      rcases List.mem_append.1 hy' with hy' | hy'
      · exact h.1 y hy'
      · simp at hy'; subst hy'; exact (ahead_lex _ _).1 hc
    · rw [if_neg hc, List.pairwise_cons, List.pairwise_cons]
      have hxc : lexL x.fRef c.fRef := by
        have h1 : ¬ lexL c.fRef x.fRef := fun h => hc ((ahead_lex _ _).2 h)
        have h2 := hx c (by simp)
        unfold lexL at *
        have h3 : ¬ (c.fRef.fTx = x.fRef.fTx ∧ c.fRef.fAt = x.fRef.fAt) := fun e => h2 (by unfold refKey; rw [e.1, e.2])
        omega
      refine ⟨fun y hy => ?_, h.1, h.2⟩
      rcases List.mem_cons.1 hy with rfl | hy
      · exact hxc
      · exact lex_trans hxc (h.1 y hy)
theorem l4Put_rise (x1 x3 : Int) (x4 : Bool) (x2 : List Out) : ∀ (d i : Nat) (ac : List Coin), ac.Pairwise (fun a b => lexL a.fRef b.fRef) → (∀ c ∈ ac, c.fRef.fTx = x1 → c.fRef.fAt < (i : Int)) → ((List.range' i d).foldl (fun ac i => spec_l4Add_v ac (newAt x1 x3 x4 x2 i)) ac).Pairwise (fun a b => lexL a.fRef b.fRef)
  | 0, i, ac, h, _ => h
  | d + 1, i, ac, h, hx => by
    rw [List.range'_succ, List.foldl_cons]
    refine l4Put_rise x1 x3 x4 x2 d (i + 1) _ (l4Add_rise _ ac h (fun c hc e => ?_)) (fun c hc e => ?_)
    · have e1 := (Prod.mk.inj (show (c.fRef.fTx, c.fRef.fAt) = (x1, (i : Int)) from e)).1
      have e2 := (Prod.mk.inj (show (c.fRef.fTx, c.fRef.fAt) = (x1, (i : Int)) from e)).2
      have := hx c hc e1
      omega
    · rcases List.mem_append.1 ((l4Add_perm _ ac).mem_iff.1 hc) with hc | hc
      · have := hx c hc e; omega
      · simp at hc; subst hc
        show (i : Int) < _
        omega
theorem l4Put_sort (x0 : List Coin) (x1 : Int) (x2 : List Out) (x3 : Int) (x4 : Bool) (h : Rise x0) (hno : ∀ c ∈ x0, c.fRef.fTx ≠ x1) : (spec_l4Put_v x0 x1 x2 x3 x4).Pairwise (fun a b => lexL a.fRef b.fRef) ∧ (x0 ++ news x1 x3 x4 x2).mergeSort refLe = spec_l4Put_v x0 x1 x2 x3 x4 ∧ ((x0 ++ news x1 x3 x4 x2).map refKey).Nodup := by
  have h1 : (spec_l4Put_v x0 x1 x2 x3 x4).Pairwise (fun a b => lexL a.fRef b.fRef) := l4Put_rise x1 x3 x4 x2 x2.length 0 x0 h.2 (fun c hc e => absurd e (hno c hc))
  have h2 : (spec_l4Put_v x0 x1 x2 x3 x4).Perm (x0 ++ news x1 x3 x4 x2) := l4Put_perm x1 x3 x4 x2 _ x0
  exact ⟨h1, sort_uniq h2 h1, ((h2.map refKey).nodup_iff).1 (rise_keys h1)⟩
theorem hasTx_no {x0 : List Coin} {x1 : Int} (h : impl_hasTx_v x0 x1 = false) : ∀ c ∈ x0, c.fRef.fTx ≠ x1 := fun c hc e => by
  unfold impl_hasTx_v at h
  rw [slices_ContainsFunc_impl_Coin_any, List.any_eq_false] at h
  obtain ⟨i, hi, rfl⟩ := List.getElem_of_mem hc
  have := h i (by rw [List.mem_range'_1]; omega)
  unfold impl_hasTx_1_v at this
  rw [gt_eq (by simpa using hi)] at this
  simp only [Int.toNat_natCast] at this
  exact this (by simpa using e)
theorem putCoins_l1 (x1 x3 : Int) (x4 : Bool) (x2 : List Out) (h_x2 : Lm smOut x2) : ∀ (d i : Nat) (ac : List Coin), i + d = x2.length → ac.length + d ≤ 10000000 → Evt (fun k => impl_putCoins.l1 x1 x2 x3 x4 k ac (i : Int)) (ac ++ (List.range' i d).map (newAt x1 x3 x4 x2))
  | 0, i, ac, hi, ha => by
    refine Evt.s ?_
    simp only [impl_putCoins.l1_s]
    exact Evt.f (ge_lt (by omega)) (Evt.ret (by simp))
  | d + 1, i, ac, hi, ha => by
    have hlt : i < x2.length := by omega
    have hn := h_x2.1
    refine Evt.s ?_
    simp only [impl_putCoins.l1_s]
    refine Evt.t (int_lt hlt) (Evt.chk (idx_ok hlt) (Evt.bind (impl_ownOut_ev _ (h_x2.2 _ (gt_mem hlt))) (Evt.chk (leB_of (by simp; omega)) ?_)))
    rw [w64 hlt (by omega), ownOut_id]
    refine (putCoins_l1 x1 x3 x4 x2 h_x2 d (i + 1) _ (by omega) (by simp; omega)).to ?_
    rw [List.range'_succ, List.map_cons]
    simp [newAt]
def impl_putCoins_v (x0 : List Coin) (x1 : Int) (x2 : List Out) (x3 : Int) (x4 : Bool) : (List Coin) × Int := (bif ((!(impl_isId_v x1)) || (!(bif (!(!(impl_isId_v x1))) then (impl_isHeight_v x3) else default))) then (([] : List Coin), 3) else (bif (decide (4 < (x2.length : Int))) then (([] : List Coin), 2) else (onO ((List.range' 0 (x2.length - 0)).findSome? (fun (i0 : Nat) => (bif ((impl_outFault_v (gt x2 (i0 : Int))) != 0) then (some (([] : List Coin), (impl_outFault_v (gt x2 (i0 : Int))))) else none))) (fun r => r) (bif (impl_hasTx_v x0 x1) then (([] : List Coin), 7) else (bif (decide (40 < (wrap64 ((x0.length : Int) + (x2.length : Int))))) then (([] : List Coin), 2) else (((x0 ++ news x1 x3 x4 x2).mergeSort refLe), 0))))))
theorem impl_putCoins_ev (x0 : List Coin) (x1 : Int) (x2 : List Out) (x3 : Int) (x4 : Bool) (h_x0 : (Lm smCoin) x0) (h_x2 : (Lm smOut) x2) (hr : Rise x0) (h40 : x0.length ≤ 40) : Evt (fun k => impl_putCoins.f k x0 x1 x2 x3 x4) (impl_putCoins_v x0 x1 x2 x3 x4) :=
  (Evt.bind (impl_isId_ev x1) (Evt.bind (Evt.ifh (fun _ => (impl_isHeight_ev x3)) (fun _ => Evt.self _)) (Evt.ifh (fun hc6 => (Evt.self _)) (fun hc6 => (Evt.ifh (fun hc5 => (Evt.self _)) (fun hc5 => (Evt.loop (r' := fun r => r) (Evt.srch (L := (fun k i => impl_putCoins.l0 x2 k i)) 0 x2.length (by have := h_x2.1; omega) (fun (i0 : Nat) => (bif ((impl_outFault_v (gt x2 (i0 : Int))) != 0) then (some (([] : List Coin), (impl_outFault_v (gt x2 (i0 : Int))))) else none)) (fun i0 hs2 hi2 => by
  simp only [impl_putCoins.l0_s]
  exact Evt_t2 (int_lt hi2) (StE.chk (idx_ok (by omega)) (StE.bind (impl_outFault_ev (gt x2 (i0 : Int)) (h_x2.2 _ (gt_mem (by omega)))) (StE.ifh (fun hc1 => (StE.ret _)) (fun hc1 => StE.next))))) (fun j hj => by
  simp only [impl_putCoins.l0_s]
  exact Evt.f (ge_lt hj) (Evt.self _))) (fun _ => rfl) (Evt.bind (impl_hasTx_ev x0 x1 (h_x0)) (Evt.ifh (fun hc4 => (Evt.self _)) (fun hc4 => (Evt.ifh (fun hc3 => (Evt.self _)) (fun hc3 => by
  have hn2 : x2.length ≤ 4 := by have := of_decide_eq_false hc5; omega
  have eo := impl_ownCoins_ev x0 h_x0
  rw [ownCoins_id] at eo
  have hns : (x0 ++ news x1 x3 x4 x2).length ≤ 1000000 := by unfold news; simp; omega
  exact Evt.bind eo (Evt.bind (putCoins_l1 x1 x3 x4 x2 h_x2 x2.length 0 x0 (by omega) (by omega)) (Evt.bind (sorted_ev _ hns (l4Put_sort x0 x1 x2 x3 x4 hr (hasTx_no hc4)).2.2) (Evt.self _)))))))))))))))
theorem findCoin_rise (x0 : List Coin) (x1 : Ref) (rise : ∀ a b : Nat, a < b → b < x0.length → lexL (gt x0 (a : Int)).fRef (gt x0 (b : Int)).fRef) : spec_l4At_v x0 x1 = bif (impl_findCoin_v x0 x1).2 then (impl_findCoin_v x0 x1).1 else -1 := by
  have hc0 : ∀ i : Nat, impl_findCoin_1_v (gt x0 (i : Int)) x1 = 0 ↔ (gt x0 (i : Int)).fRef.fTx = x1.fTx ∧ (gt x0 (i : Int)).fRef.fAt = x1.fAt := fun i => compareRefs_zero _ _
  have hcl : ∀ i : Nat, impl_findCoin_1_v (gt x0 (i : Int)) x1 < 0 ↔ lexL (gt x0 (i : Int)).fRef x1 := fun i => compareRefs_lt _ _
  have key := bs_find x0.length (fun i => impl_findCoin_1_v (gt x0 (i : Int)) x1) (fun a b hab hb hlt => by
    rw [hcl] at hlt ⊢
    rcases Nat.lt_or_eq_of_le hab with h1 | h1
    · exact lex_trans (rise a b h1 hb) hlt
    · subst h1; exact hlt) (fun a b hab hb h0 => by
    rw [hc0] at h0
    rw [hcl]
    have := rise a b hab hb
    unfold lexL at *; omega) default
  have e : (fun i : Nat => bif (((gt x0 (i : Int)).fRef.fTx == x1.fTx) && ((gt x0 (i : Int)).fRef.fAt == x1.fAt)) then some (i : Int) else none) = fun i : Nat => bif impl_findCoin_1_v (gt x0 (i : Int)) x1 == 0 then some (i : Int) else none := by
    funext i
    have : (((gt x0 (i : Int)).fRef.fTx == x1.fTx) && ((gt x0 (i : Int)).fRef.fAt == x1.fAt)) = (impl_findCoin_1_v (gt x0 (i : Int)) x1 == 0) := by
      rw [Bool.eq_iff_iff, Bool.and_eq_true, beq_iff_eq, beq_iff_eq, beq_iff_eq]; exact (hc0 i).symm
    rw [this]
  show onO ((List.range' 0 (x0.length - 0)).findSome? (fun i : Nat => bif (((gt x0 (i : Int)).fRef.fTx == x1.fTx) && ((gt x0 (i : Int)).fRef.fAt == x1.fAt)) then some (i : Int) else none)) (fun r => r) (-1) = _
  rw [e, key]
  show onO (bif (impl_findCoin_v x0 x1).2 then some (impl_findCoin_v x0 x1).1 else none) _ _ = _
  cases (impl_findCoin_v x0 x1).2 <;> rfl
theorem findCoin_at (x0 : List Coin) (x1 : Ref) (hl : x0.length ≤ 1048576) (h : spec_l4Fault_v x0 = 0) : spec_l4At_v x0 x1 = bif (impl_findCoin_v x0 x1).2 then (impl_findCoin_v x0 x1).1 else -1 := findCoin_rise x0 x1 (coins_lt x0 hl h)
theorem at_shape {R : Type} (b : Bool) (i : Int) (A : R) (B : Int → R) (hi : b = true → 0 ≤ i) : (bif !b then A else B i) = (bif decide ((bif b then i else (-1)) < 0) then A else B (bif b then i else (-1))) := by
  cases b
  · rfl
  · have h := hi rfl
    have e : decide (i < 0) = false := decide_eq_false (by omega)
    show B i = bif decide (i < 0) then A else B i
    rw [e]; rfl
theorem takeG_same (s : List Coin) (r : Ref) (h : Rise s) : takeG2 s r = takeG1 s r := by
  unfold takeG2 takeG1
  rw [findCoin_rise s r h.lt]
  have hin := findCoin_in s r
  have hl := h.1
  generalize impl_findCoin_v s r = q at hin ⊢
  have e : (bif !q.2 then none else some (slices_Delete_impl_Coin_v s q.1 (wrap64 (q.1 + 1)))) = (bif !q.2 then none else some (s.take q.1.toNat ++ s.drop (wrap64 (q.1 + 1)).toNat)) := by
    cases hb : q.2
    · simp only [Bool.not_false, cond_true]
    · have h3 := hin (by rw [hb]; rfl)
      have h4 := idx_lo h3
      have h5 := idx_hi h3
      have ew : wrap64 (q.1 + 1) = q.1 + 1 := wrap64_in _ (by omega)
      have e2 : (q.1 == q.1 + 1) = false := by simp; omega
      rw [ew]
      unfold slices_Delete_impl_Coin_v
      rw [e2]
      simp only [Bool.not_true, cond_false]
  rw [e]
  exact at_shape q.2 q.1 none (fun t => some (s.take t.toNat ++ s.drop (wrap64 (t + 1)).toNat)) (fun hb => idx_lo (hin (by rw [hb]; rfl)))
theorem takeG2_sub (s : List Coin) (r : Ref) (t : List Coin) (hs : Rise s) (h : takeG2 s r = some t) : Rise t := by
  unfold takeG2 at h
  cases hc : !(impl_findCoin_v s r).2
  · rw [hc] at h
    have h2 : slices_Delete_impl_Coin_v s (impl_findCoin_v s r).1 (wrap64 ((impl_findCoin_v s r).1 + 1)) = t := Option.some.inj h
    subst h2
    have h3 := findCoin_in s r hc
    unfold slices_Delete_impl_Coin_v
    cases (impl_findCoin_v s r).1 == wrap64 ((impl_findCoin_v s r).1 + 1)
    · exact hs.sub (cut_sub s (cut_hi (cut_self h3 hs.1)))
    · exact hs
  · rw [hc] at h; cases h
theorem three_all {a : Bool} {q : Int} {b : Bool} (h : (bif a then some (3 : Int) else bif q != 0 then some q else bif b then some 1 else none) = none) : a = false ∧ q = 0 := by
  cases a
  · cases hq : q != 0
    · exact ⟨rfl, by simpa using hq⟩
    · rw [hq] at h; cases h
  · cases h
def okC (c : Coin) : Prop := ((!(spec_l3Ref_v c.fRef)) || (!(bif (!(!(spec_l3Ref_v c.fRef))) then (spec_l2Height_v c.fHeight) else default))) = false ∧ spec_l4Out_v c.fOut = 0
theorem fault_parts {x0 : List Coin} (h : spec_l4Fault_v x0 = 0) : ∀ c ∈ x0, okC c := fun c hc => by
  unfold spec_l4Fault_v at h
  cases hd : decide (40 < (x0.length : Int))
  · rw [hd] at h
    obtain ⟨h1, _⟩ := onO_zero h (fun i => three_ne _ _ _)
    obtain ⟨i, hi, rfl⟩ := List.getElem_of_mem hc
    have := three_all (fs_all h1 i hi)
    rw [gt_eq (by simpa using hi)] at this
    simp only [Int.toNat_natCast] at this
    exact this
  · rw [hd] at h; exact absurd (show (2 : Int) = 0 from h) (by decide)
theorem fault_of {xs : List Coin} (hl : xs.length ≤ 40) (hc : ∀ c ∈ xs, okC c) (hr : Rise xs) : spec_l4Fault_v xs = 0 := by
  unfold spec_l4Fault_v
  have hd : decide (40 < (xs.length : Int)) = false := by simp; omega
  rw [hd, cond_false]
  have : (List.range' 0 (xs.length - 0)).findSome? (fun (i0 : Nat) => (bif ((!(spec_l3Ref_v ((gt xs (i0 : Int)).fRef))) || (!(bif (!(!(spec_l3Ref_v ((gt xs (i0 : Int)).fRef)))) then (spec_l2Height_v ((gt xs (i0 : Int)).fHeight)) else default))) then (some (3 : Int)) else (bif ((spec_l4Out_v ((gt xs (i0 : Int)).fOut)) != 0) then (some (spec_l4Out_v ((gt xs (i0 : Int)).fOut))) else (bif ((decide (0 < (i0 : Int))) && (!(bif (decide (0 < (i0 : Int))) then (spec_l4Ahead_v ((gt xs (wrap64 ((i0 : Int) - 1))).fRef) ((gt xs (i0 : Int)).fRef)) else default))) then (some 1) else none)))) = none := by
    rw [List.findSome?_eq_none_iff]
    intro i hi
    have hlt : i < xs.length := by rw [List.mem_range'_1] at hi; omega
    obtain ⟨a1, a2⟩ := hc _ (gt_mem hlt)
    rw [a1, a2, cond_false]
    have e0 : ((0 : Int) != 0) = false := rfl
    rw [e0, cond_false]
    by_cases h0 : 0 < i
    · have e : wrap64 ((i : Int) - 1) = ((i - 1 : Nat) : Int) := by rw [wrap64_in _ (by omega)]; omega
      have := (ahead_lex _ _).2 (hr.lt (i - 1) i (by omega) hlt)
      rw [e, this]
      cases decide (0 < (i : Int)) <;> rfl
    · have e : decide (0 < (i : Int)) = false := by simp; omega
      rw [e]; rfl
  rw [this]; rfl
theorem take_same {x0 : List Coin} (hr : Rise x0) (rs : List Ref) : (impl_takeCoins_v x0 rs).1 = (spec_l4Take_v x0 rs).1 := by
  have e := stepAll_same (g := takeG2) (g' := takeG1) (I := Rise) takeG2_sub takeG_same rs x0 hr
  unfold impl_takeCoins_v spec_l4Take_v
  rw [ownCoins_id, l4Copy_id, e]
  cases stepAll takeG1 x0 rs with
  | none => rfl
  | some t => rfl
theorem stepAll_rel {σ τ : Type} {g : σ → τ → Option σ} {I : σ → Prop} {R : σ → σ → Prop} (hrefl : ∀ s, R s s) (htr : ∀ a b c, R a b → R b c → R a c) (pres : ∀ s r t, I s → g s r = some t → I t ∧ R t s) : ∀ (rs : List τ) (s t : σ), I s → stepAll g s rs = some t → I t ∧ R t s
  | [], s, t, hi, h => by
    have : s = t := Option.some.inj h
    subst this; exact ⟨hi, hrefl _⟩
  | r :: rs, s, t, hi, h => by
    simp only [stepAll] at h
    cases hg : g s r with
    | none => rw [hg] at h; cases h
    | some u =>
      rw [hg] at h
      obtain ⟨h1, h2⟩ := pres s r u hi hg
      obtain ⟨h3, h4⟩ := stepAll_rel hrefl htr pres rs u t h1 h
      exact ⟨h3, htr _ _ _ h4 h2⟩
theorem takeG2_sublist (s : List Coin) (r : Ref) (t : List Coin) (hs : Rise s) (h : takeG2 s r = some t) : Rise t ∧ t.Sublist s := by
  refine ⟨takeG2_sub s r t hs h, ?_⟩
  unfold takeG2 at h
  cases hc : !(impl_findCoin_v s r).2
  · rw [hc] at h
    have h2 : slices_Delete_impl_Coin_v s (impl_findCoin_v s r).1 (wrap64 ((impl_findCoin_v s r).1 + 1)) = t := Option.some.inj h
    subst h2
    have h3 := findCoin_in s r hc
    unfold slices_Delete_impl_Coin_v
    cases (impl_findCoin_v s r).1 == wrap64 ((impl_findCoin_v s r).1 + 1)
    · exact cut_sub s (cut_hi (cut_self h3 hs.1))
    · exact List.Sublist.refl _
  · rw [hc] at h; cases h
theorem take_sub {x0 : List Coin} (hr : Rise x0) (rs : List Ref) : Rise (impl_takeCoins_v x0 rs).1 ∧ ((impl_takeCoins_v x0 rs).1).Sublist x0 := by
  unfold impl_takeCoins_v
  rw [ownCoins_id]
  cases hs : stepAll takeG2 x0 rs with
  | none => exact ⟨⟨by simp, .nil⟩, List.nil_sublist _⟩
  | some t => exact stepAll_rel (I := Rise) (R := List.Sublist) List.Sublist.refl (fun a b c h k => h.trans k) takeG2_sublist rs x0 t hr hs
theorem take_fault {x0 : List Coin} (h0 : Lm smCoin x0) (h : spec_l4Fault_v x0 = 0) (rs : List Ref) : spec_l4Fault_v (impl_takeCoins_v x0 rs).1 = 0 ∧ Lm smCoin (impl_takeCoins_v x0 rs).1 := by
  obtain ⟨h1, h2⟩ := take_sub (rise_of h0 h) rs
  exact ⟨fault_of (Nat.le_trans h2.length_le (fault_len h)) (fun c hc => fault_parts h c (h2.subset hc)) h1, Lm_sub h0 h2⟩
def impl_spendTx_v (x0 : List Coin) (x1 : Tx) (x2 x3 : Int) : (List Coin) × Int := bif ((impl_spentBy_v x0 x1).2 != 0) then ([], (impl_spentBy_v x0 x1).2) else bif impl_hasTx_v x0 x2 then ([], 7) else impl_putCoins_v (impl_takeCoins_v x0 x1.fIns).1 x2 x1.fOuts x3 false
theorem impl_spendTx_ev (x0 : List Coin) (x1 : Tx) (x2 x3 : Int) (h_x0 : Lm smCoin x0) (h_x1 : smTx x1) (h0 : spec_l4Fault_v x0 = 0) (h1 : spec_l3Fault_v x1 = 0) : Evt (fun k => impl_spendTx.f k x0 x1 x2 x3) (impl_spendTx_v x0 x1 x2 x3) := by
  have hr := rise_of h_x0 h0
  obtain ⟨f1, f2⟩ := take_fault h_x0 h0 x1.fIns
  refine Evt.bind (impl_spentBy_ev x0 x1 h_x0 h_x1 hr h1) (Evt.ifh (fun _ => Evt.self _) (fun _ => Evt.bind (impl_hasTx_ev x0 x2 h_x0) (Evt.ifh (fun _ => Evt.self _) (fun _ => ?_))))
  exact Evt.bind (impl_takeCoins_ev x0 x1.fIns h_x0 h_x1.2.2.1) (Evt.bind (impl_putCoins_ev _ x2 x1.fOuts x3 false f2 h_x1.2.2.2 (take_sub hr x1.fIns).1 (fault_len f1)) (Evt.self _))
theorem contains_ref (xs : List Ref) (x : Ref) : slices_Contains_impl_Ref_v xs x = spec_l3Among_v xs x := by
  have e : (fun i : Nat => (x.fTx == (gt xs (i : Int)).fTx) && (x.fAt == (gt xs (i : Int)).fAt)) = fun i : Nat => ((gt xs (i : Int)).fTx == x.fTx) && ((gt xs (i : Int)).fAt == x.fAt) := by funext i; rw [BEq.comm (a := x.fTx), BEq.comm (a := x.fAt)]
  rw [slices_Contains_impl_Ref_any, e]; simp only [spec_l3Among_v, found_any, bifb]
theorem txFault_same (x0 : Tx) : impl_TxFault_v x0 = spec_l3Fault_v x0 := by
  have e1 : ∀ n : Int, impl_TxFault_1_v n = !(spec_l1In_v n 1 4) := fun n => rng1
  have e2 : ∀ x : Out, (bif ((impl_outFault_v x) != 0) then (some (impl_outFault_v x)) else none) = (bif !(spec_l1In_v x.fValue 1 1000000) then (some 3) else (bif ((spec_l2Fault_v x.fRule) != 0) then (some (spec_l2Fault_v x.fRule)) else none)) := by
    intro x
    have e : impl_outFault_v x = bif !(spec_l1In_v x.fValue 1 1000000) then 3 else spec_l2Fault_v x.fRule := by simp only [impl_outFault_v, ruleFault_same, impl_within_v, spec_l1In_v]
    rw [e]
    cases spec_l1In_v x.fValue 1 1000000 <;> rfl
  have e3 : ∀ n a b : Int, impl_within_v n a b = spec_l1In_v n a b := fun _ _ _ => rfl
  have e4 : ∀ n : Int, impl_isKey_v n = spec_l1Key_v n := fun _ => rfl
  simp only [impl_TxFault_v, spec_l3Fault_v, spec_l3Outs_v, e1, e2, e3, e4, refs_same, contains_ref]
  simp only [bne]
  generalize spec_l1In_v (x0.fIns.length : Int) 1 4 = a
  generalize spec_l1In_v (x0.fOuts.length : Int) 1 4 = b
  generalize spec_l1In_v x0.fKind 0 2 = c
  generalize spec_l1Key_v x0.fMember = d
  generalize (x0.fKind == 0) = e
  generalize (x0.fMember == 0) = f
  cases a <;> cases b <;> cases c <;> cases d <;> cases e <;> cases f <;> rfl
def impl_SpendTx_v (x0 : List Coin) (x1 : Tx) (x2 x3 : Int) : CoinsResult := bif (impl_CoinsFault_v x0 != 0) then ⟨impl_CoinsFault_v x0, []⟩ else bif (impl_TxFault_v x1 != 0) then ⟨impl_TxFault_v x1, []⟩ else ⟨(impl_spendTx_v x0 x1 x2 x3).2, (impl_spendTx_v x0 x1 x2 x3).1⟩
theorem impl_SpendTx_ev (x0 : List Coin) (x1 : Tx) (x2 x3 : Int) (h_x0 : Lm smCoin x0) (h_x1 : smTx x1) : Evt (fun k => impl_SpendTx.f k x0 x1 x2 x3) (impl_SpendTx_v x0 x1 x2 x3) := by
  refine Evt.bind (impl_CoinsFault_ev x0 h_x0) (Evt.ifh (fun hc => Evt.self _) (fun hc => Evt.bind (impl_TxFault_ev x1 h_x1) (Evt.ifh (fun hd => Evt.self _) (fun hd => ?_))))
  rw [coinsFault_same] at hc
  rw [txFault_same] at hd
  exact Evt.bind (impl_spendTx_ev x0 x1 x2 x3 h_x0 h_x1 (by simpa using hc) (by simpa using hd)) (Evt.self _)
theorem eqRef_ev (x : Ref) (h : smRef x) : Evt (fun k => laws_eqRef.f k x x) true := Evt.f (by simp [sEq_refl]) (Evt.f (by simp [sEq_refl]) (Evt.self _))
theorem eqInt64S_ev (x : List Int) (h : (Lm tr) x) : Evt (fun k => laws_eqInt64S.f k x x) true := by
  have hn := h.1
  refine (Evt.eqr (L := fun k i => laws_eqInt64S.l0 x x k i) (fun _ _ => true) x x (by omega) (fun i h1 h2 o ht hf => ?_) ?_).to (eqRows_refl (fun _ => rfl) x)
  · refine Evt.s ?_
    simp only [laws_eqInt64S.l0_s]
    exact Evt.t (int_lt h1) (Evt.chk (idx_ok h1) (Evt.chk (idx_ok h2) (Evt.f (by simp [sEq_refl]) (ht rfl))))
  · refine Evt.s ?_
    simp only [laws_eqInt64S.l0_s]
    exact Evt.f int_nlt (Evt.self _)
theorem eqRule_ev (x : Rule) (h : smRule x) : Evt (fun k => laws_eqRule.f k x x) true := Evt.bind (eqInt64S_ev _ h.1) (Evt.f rfl (Evt.f (by simp [sEq_refl]) (Evt.f (by simp [sEq_refl]) (Evt.self _))))
theorem eqOut_ev (x : Out) (h : smOut x) : Evt (fun k => laws_eqOut.f k x x) true := Evt.f (by simp [sEq_refl]) (Evt.bind (eqRule_ev _ h.2) (Evt.f rfl (Evt.self _)))
theorem eqCoin_ev (x : Coin) (h : smCoin x) : Evt (fun k => laws_eqCoin.f k x x) true := Evt.bind (eqRef_ev _ h.1) (Evt.f rfl (Evt.bind (eqOut_ev _ h.2.1) (Evt.f rfl (Evt.f (by simp [sEq_refl]) (Evt.f (by simp [sEq_refl]) (Evt.self _))))))
theorem eqCoinS_ev (x : List Coin) (h : (Lm smCoin) x) : Evt (fun k => laws_eqCoinS.f k x x) true := by
  have hn := h.1
  refine (Evt.eqr (L := fun k i => laws_eqCoinS.l0 x x k i) (fun _ _ => true) x x (by omega) (fun i h1 h2 o ht hf => ?_) ?_).to (eqRows_refl (fun _ => rfl) x)
  · refine Evt.s ?_
    simp only [laws_eqCoinS.l0_s]
    exact Evt.t (int_lt h1) (Evt.chk (idx_ok h1) (Evt.chk (idx_ok h2) (Evt.bind (eqCoin_ev _ (h.2 _ (gt_mem h1))) (Evt.f rfl (ht rfl)))))
  · refine Evt.s ?_
    simp only [laws_eqCoinS.l0_s]
    exact Evt.f int_nlt (Evt.self _)
theorem eqCoinsResult_ev (x : CoinsResult) (h : smCoinsResult x) : Evt (fun k => laws_eqCoinsResult.f k x x) true := Evt.f (by simp [sEq_refl]) (Evt.bind (eqCoinS_ev _ h.2) (Evt.f rfl (Evt.self _)))
theorem eqRefS_ev (x : List Ref) (h : (Lm smRef) x) : Evt (fun k => laws_eqRefS.f k x x) true := by
  have hn := h.1
  refine (Evt.eqr (L := fun k i => laws_eqRefS.l0 x x k i) (fun _ _ => true) x x (by omega) (fun i h1 h2 o ht hf => ?_) ?_).to (eqRows_refl (fun _ => rfl) x)
  · refine Evt.s ?_
    simp only [laws_eqRefS.l0_s]
    exact Evt.t (int_lt h1) (Evt.chk (idx_ok h1) (Evt.chk (idx_ok h2) (Evt.bind (eqRef_ev _ (h.2 _ (gt_mem h1))) (Evt.f rfl (ht rfl)))))
  · refine Evt.s ?_
    simp only [laws_eqRefS.l0_s]
    exact Evt.f int_nlt (Evt.self _)
theorem eqOutS_ev (x : List Out) (h : (Lm smOut) x) : Evt (fun k => laws_eqOutS.f k x x) true := by
  have hn := h.1
  refine (Evt.eqr (L := fun k i => laws_eqOutS.l0 x x k i) (fun _ _ => true) x x (by omega) (fun i h1 h2 o ht hf => ?_) ?_).to (eqRows_refl (fun _ => rfl) x)
  · refine Evt.s ?_
    simp only [laws_eqOutS.l0_s]
    exact Evt.t (int_lt h1) (Evt.chk (idx_ok h1) (Evt.chk (idx_ok h2) (Evt.bind (eqOut_ev _ (h.2 _ (gt_mem h1))) (Evt.f rfl (ht rfl)))))
  · refine Evt.s ?_
    simp only [laws_eqOutS.l0_s]
    exact Evt.f int_nlt (Evt.self _)
theorem eqTx_ev (x : Tx) (h : smTx x) : Evt (fun k => laws_eqTx.f k x x) true := Evt.f (by simp [sEq_refl]) (Evt.f (by simp [sEq_refl]) (Evt.bind (eqRefS_ev _ h.2.2.1) (Evt.f rfl (Evt.bind (eqOutS_ev _ h.2.2.2) (Evt.f rfl (Evt.self _))))))
theorem markInt64S_mh (x : List Int) (h : (Lm tr) x) (s : Int) (h1 : 1 ≤ s) (h2 : s + 1048576 ≤ 4611686018427387904) : ∃ y t, s ≤ t ∧ t ≤ s + 1048576 ∧ Evt (fun k => laws_markInt64S.f k x s) (t, y) ∧ Evt (fun k => laws_heldInt64S.f k y s) t := by
  have hn := h.1
  have hc : (x.length : Int) * 1 ≤ 1048576 := by omega
  obtain ⟨ys, t, a1, a2, a3, a4, a5⟩ := mark_held (fun k a s i => laws_markInt64S.l0 k a s i) (fun a k s i => laws_heldInt64S.l0 a k s i) True 1 (by omega) tr (fun acc s i hi hp h1 h2 => by
    have w0 : wrap64 (s + 1) = s + 1 := wrap64_in _ (by omega)
    refine ⟨s, (s + 1), by omega, by omega, fun r hr => ?_, fun hB ys hi hy r hr => ?_⟩
    · simp only [laws_markInt64S.l0_s, int_lt hi, cond_true, idx_ok hi, chkT, Int.toNat_natCast, List.length_set, gt_set hi, List.set_set, w0]
      exact hr
    · simp only [laws_heldInt64S.l0_s, int_lt hi, cond_true, idx_ok hi, chkT, hy, bne_self_eq_false, cond_false, w0]
      exact hr) (fun acc s => by
    simp only [laws_markInt64S.l0_s]
    exact Evt.f int_nlt (Evt.self _)) (fun _ ys s => by
    simp only [laws_heldInt64S.l0_s]
    exact Evt.f int_nlt (Evt.self _)) x (by omega) h.2 s h1 (by omega)
  exact ⟨ys, t, a2, by omega, Evt.bind a4 (Evt.self _), Evt.bind (a5 trivial) (Evt.self _)⟩
theorem markCoinS_mh (x : List Coin) (h : (Lm smCoin) x) (s : Int) (h1 : 1 ≤ s) (h2 : s + 1099518967808 ≤ 4611686018427387904) : ∃ y t, s ≤ t ∧ t ≤ s + 1099518967808 ∧ Evt (fun k => laws_markCoinS.f k x s) (t, y) ∧ Evt (fun k => laws_heldCoinS.f k y s) t := by
  have hn := h.1
  have hc : (x.length : Int) * 1048583 ≤ 1099518967808 := by omega
  obtain ⟨ys, t, a1, a2, a3, a4, a5⟩ := mark_held (fun k a s i => laws_markCoinS.l0 k a s i) (fun a k s i => laws_heldCoinS.l0 a k s i) True 1048583 (by omega) smCoin (fun acc s i hi hp h1 h2 => by
    have w0 : wrap64 (s + 1) = s + 1 := wrap64_in _ (by omega)
    have w1 : wrap64 (s + 1 + 1) = s + 1 + 1 := wrap64_in _ (by omega)
    have w2 : wrap64 (s + 1 + 1 + 1) = s + 1 + 1 + 1 := wrap64_in _ (by omega)
    obtain ⟨y3, t3, l3, u3, e3, g3⟩ := markInt64S_mh (gt acc (i : Int)).fOut.fRule.fKeys hp.2.1.2.1 (s + 1 + 1 + 1) (by omega) (by omega)
    have n3 : decide (t3 < 0) = false := by simp; omega
    have w4 : wrap64 (t3 + 1) = t3 + 1 := wrap64_in _ (by omega)
    have w5 : wrap64 (t3 + 1 + 1) = t3 + 1 + 1 := wrap64_in _ (by omega)
    have w6 : wrap64 (t3 + 1 + 1 + 1) = t3 + 1 + 1 + 1 := wrap64_in _ (by omega)
    have w7 : wrap64 (t3 + 1 + 1 + 1 + 1) = t3 + 1 + 1 + 1 + 1 := wrap64_in _ (by omega)
    have h3 : ((3 : Int) != 0) = true := by decide
    refine ⟨⟨⟨s, s + 1⟩, ⟨s + 1 + 1, ⟨y3, t3, t3 + 1⟩⟩, t3 + 1 + 1, (Int.tmod (t3 + 1 + 1 + 1) 3 == 0)⟩, t3 + 1 + 1 + 1 + 1, by omega, by omega, fun r hr => ?_, fun hB ys hi hy r hr => ?_⟩
    · simp only [laws_markCoinS.l0_s, int_lt hi, cond_true, cond_false, idx_ok hi, chkT, Int.toNat_natCast, h3, w0, w1, w2, w4, w5, w6, w7]
      refine Evt.bind e3 ?_
      try simp only [int_lt hi, cond_true, cond_false, idx_ok hi, chkT, Int.toNat_natCast, h3, w0, w1, w2, w4, w5, w6, w7]
      exact hr
    · simp only [laws_heldCoinS.l0_s, hy, bne_self_eq_false, int_lt hi, cond_true, cond_false, idx_ok hi, chkT, Int.toNat_natCast, h3, w0, w1, w2, w4, w5, w6, w7]
      refine Evt.bind g3 ?_
      try simp only [hy, bne_self_eq_false, n3, int_lt hi, cond_true, cond_false, idx_ok hi, chkT, Int.toNat_natCast, h3, w0, w1, w2, w4, w5, w6, w7]
      exact hr) (fun acc s => by
    simp only [laws_markCoinS.l0_s]
    exact Evt.f int_nlt (Evt.self _)) (fun _ ys s => by
    simp only [laws_heldCoinS.l0_s]
    exact Evt.f int_nlt (Evt.self _)) x (by omega) h.2 s h1 (by omega)
  exact ⟨ys, t, a2, by omega, Evt.bind a4 (Evt.self _), Evt.bind (a5 trivial) (Evt.self _)⟩
theorem markRefS_mh (x : List Ref) (h : (Lm smRef) x) (s : Int) (h1 : 1 ≤ s) (h2 : s + 2097152 ≤ 4611686018427387904) : ∃ y t, s ≤ t ∧ t ≤ s + 2097152 ∧ Evt (fun k => laws_markRefS.f k x s) (t, y) := by
  have hn := h.1
  have hc : (x.length : Int) * 2 ≤ 2097152 := by omega
  obtain ⟨ys, t, a1, a2, a3, a4, a5⟩ := mark_held (fun k a s i => laws_markRefS.l0 k a s i) (fun a k s i => none) False 2 (by omega) smRef (fun acc s i hi hp h1 h2 => by
    have w0 : wrap64 (s + 1) = s + 1 := wrap64_in _ (by omega)
    have w1 : wrap64 ((s + 1) + 1) = (s + 1) + 1 := wrap64_in _ (by omega)
    refine ⟨⟨s, (s + 1)⟩, ((s + 1) + 1), by omega, by omega, fun r hr => ?_, fun hB ys hi hy r hr => ?_⟩
    · simp only [laws_markRefS.l0_s, int_lt hi, cond_true, idx_ok hi, chkT, Int.toNat_natCast, List.length_set, gt_set hi, List.set_set, w0, w1]
      exact hr
    · exact hB.elim) (fun acc s => by
    simp only [laws_markRefS.l0_s]
    exact Evt.f int_nlt (Evt.self _)) (fun h => h.elim) x (by omega) h.2 s h1 (by omega)
  exact ⟨ys, t, a2, by omega, Evt.bind a4 (Evt.self _)⟩
theorem markOutS_mh (x : List Out) (h : (Lm smOut) x) (s : Int) (h1 : 1 ≤ s) (h2 : s + 1099514773504 ≤ 4611686018427387904) : ∃ y t, s ≤ t ∧ t ≤ s + 1099514773504 ∧ Evt (fun k => laws_markOutS.f k x s) (t, y) := by
  have hn := h.1
  have hc : (x.length : Int) * 1048579 ≤ 1099514773504 := by omega
  obtain ⟨ys, t, a1, a2, a3, a4, a5⟩ := mark_held (fun k a s i => laws_markOutS.l0 k a s i) (fun a k s i => none) False 1048579 (by omega) smOut (fun acc s i hi hp h1 h2 => by
    have w0 : wrap64 (s + 1) = s + 1 := wrap64_in _ (by omega)
    obtain ⟨y1, t1, l1, u1, e1, g1⟩ := markInt64S_mh (gt acc (i : Int)).fRule.fKeys hp.2.1 (s + 1) (by omega) (by omega)
    have n1 : decide (t1 < 0) = false := by simp; omega
    have w2 : wrap64 (t1 + 1) = t1 + 1 := wrap64_in _ (by omega)
    have w3 : wrap64 (t1 + 1 + 1) = t1 + 1 + 1 := wrap64_in _ (by omega)
    have h3 : ((3 : Int) != 0) = true := by decide
    refine ⟨⟨s, ⟨y1, t1, t1 + 1⟩⟩, t1 + 1 + 1, by omega, by omega, fun r hr => ?_, fun hB ys hi hy r hr => ?_⟩
    · simp only [laws_markOutS.l0_s, int_lt hi, cond_true, cond_false, idx_ok hi, chkT, Int.toNat_natCast, h3, w0, w2, w3]
      refine Evt.bind e1 ?_
      try simp only [int_lt hi, cond_true, cond_false, idx_ok hi, chkT, Int.toNat_natCast, h3, w0, w2, w3]
      exact hr
    · exact hB.elim) (fun acc s => by
    simp only [laws_markOutS.l0_s]
    exact Evt.f int_nlt (Evt.self _)) (fun h => h.elim) x (by omega) h.2 s h1 (by omega)
  exact ⟨ys, t, a2, by omega, Evt.bind a4 (Evt.self _)⟩
theorem markTx_mh (x : Tx) (h : smTx x) (s : Int) (h1 : 1 ≤ s) (h2 : s + 1099516870658 ≤ 4611686018427387904) : ∃ y0_0 y1_0 t, s ≤ t ∧ t ≤ s + 1099516870658 ∧ Evt (fun k => laws_markTx.f k x s) (t, y0_0, y1_0) := by
  obtain ⟨y0_0, t0, l0, u0, e0⟩ := markRefS_mh x.fIns h.2.2.1 s (by omega) (by omega)
  obtain ⟨y1_0, t1, l1, u1, e1⟩ := markOutS_mh x.fOuts h.2.2.2 t0 (by omega) (by omega)
  exact ⟨y0_0, y1_0, t1, by omega, by omega, (Evt.bind e0 (Evt.bind e1 (Evt.self _)))⟩
theorem markCoinsResult_mh (x : CoinsResult) (h : smCoinsResult x) (s : Int) (h1 : 1 ≤ s) (h2 : s + 1099518967809 ≤ 4611686018427387904) : ∃ y0_0 t, s ≤ t ∧ t ≤ s + 1099518967809 ∧ Evt (fun k => laws_markCoinsResult.f k x s) (t, y0_0) ∧ Evt (fun k => laws_heldCoinsResult.f k (⟨x.fCode, y0_0⟩ : CoinsResult) s) t := by
  obtain ⟨y0_0, t0, l0, u0, e0, g0⟩ := markCoinS_mh x.fCoins h.2 s (by omega) (by omega)
  exact ⟨y0_0, t0, by omega, by omega, (Evt.bind e0 (Evt.self _)), (Evt.bind g0 (Evt.f (by simp; omega) (Evt.self _)))⟩
theorem l5Spent_is (x0 : List Coin) (x1 : Tx) : spec_l5Spent_v x0 x1 = (spentOf x0 x1.fIns, ((spentOf x0 x1.fIns).length : Int) == (x1.fIns.length : Int)) := by
  unfold spec_l5Spent_v
  rw [spent_filter, l4Copy_id]; rfl
theorem spent_shape (c a : Bool) (S : List Coin) (h : c = a) : (⟨(bif a then (S, (0 : Int)) else (([] : List Coin), 4)).2, (bif a then (S, (0 : Int)) else (([] : List Coin), 4)).1⟩ : CoinsResult) = (bif !c then ⟨4, []⟩ else ⟨0, S⟩) := by
  subst h; cases c <;> rfl
theorem spentBy_eq (x0 : List Coin) (x1 : Tx) (h0 : Lm smCoin x0) (h : spec_l4Fault_v x0 = 0) (h' : spec_l3Fault_v x1 = 0) : (⟨(impl_spentBy_v x0 x1).2, (impl_spentBy_v x0 x1).1⟩ : CoinsResult) = spec_SpentBy_v x0 x1 := by
  have hf : (spec_l4Fault_v x0 != 0) = false := by rw [h]; rfl
  have hg : (spec_l3Fault_v x1 != 0) = false := by rw [h']; rfl
  unfold spec_SpentBy_v impl_spentBy_v
  rw [hf, hg, l5Spent_is]
  simp only [cond_false]
  exact spent_shape _ _ _ (spent_len (rise_of h0 h) (tx_ins x1 h').nodup)
theorem spentBy_smr (x0 : List Coin) (x1 : Tx) (h0 : Lm smCoin x0) (h1 : smTx x1) : smCoinsResult (spec_SpentBy_v x0 x1) := by
  have hl : ∀ (a : Int), smCoinsResult ⟨a, ([] : List Coin)⟩ := fun a => ⟨trivial, by simp, fun x hx => by cases hx⟩
  have hs : smCoinsResult ⟨0, spentOf x0 x1.fIns⟩ := ⟨trivial, Nat.le_trans List.filter_sublist.length_le h0.1, fun c hc => h0.2 c (spent_mem hc)⟩
  unfold spec_SpentBy_v
  rw [l5Spent_is]
  cases (spec_l4Fault_v x0) != 0
  · cases (spec_l3Fault_v x1) != 0
    · cases (((spentOf x0 x1.fIns).length : Int) == (x1.fIns.length : Int))
      · exact hl _
      · exact hs
    · exact hl _
  · exact hl _
theorem hasTx_same (x0 : List Coin) (x1 : Int) : impl_hasTx_v x0 x1 = spec_l4Of_v x0 x1 := by
  unfold impl_hasTx_v
  rw [slices_ContainsFunc_impl_Coin_any]
  simp only [spec_l4Of_v, impl_hasTx_1_v, found_any, bifb]
theorem outFault_same (o : Out) : impl_outFault_v o = spec_l4Out_v o := by
  simp only [impl_outFault_v, spec_l4Out_v, ruleFault_same, impl_within_v, spec_l1In_v]
theorem put_shape (c1 c2 c3 c4 : Bool) (fs : Option (List Coin × Int)) (A B : List Coin) (h : c3 = false → c4 = false → A = B) :
    (⟨(bif c1 then (([] : List Coin), (3 : Int)) else (bif c2 then (([] : List Coin), 2) else (onO fs (fun r => r) (bif c3 then (([] : List Coin), 7) else (bif c4 then (([] : List Coin), 2) else (A, 0)))))).2, (bif c1 then (([] : List Coin), (3 : Int)) else (bif c2 then (([] : List Coin), 2) else (onO fs (fun r => r) (bif c3 then (([] : List Coin), 7) else (bif c4 then (([] : List Coin), 2) else (A, 0)))))).1⟩ : CoinsResult)
      = (bif c1 then ⟨3, []⟩ else (bif c2 then ⟨2, []⟩ else (onO (fs.map fun r => (⟨r.2, r.1⟩ : CoinsResult)) (fun r => r) (bif c3 then ⟨7, []⟩ else (bif c4 then ⟨2, []⟩ else ⟨0, B⟩))))) := by
  cases c1
  · cases c2
    · cases fs with
      | some r => rfl
      | none =>
        cases c3
        · cases c4
          · rw [h rfl rfl]; rfl
          · rfl
        · rfl
    · rfl
  · rfl
theorem smr_shape (P : CoinsResult → Prop) (h : ∀ a, P ⟨a, []⟩) (c1 c2 c3 c4 : Bool) (fs : Option CoinsResult) (B : List Coin) (hfs : ∀ r, fs = some r → P r) (hB : c4 = false → P ⟨0, B⟩) :
    P (bif c1 then ⟨3, []⟩ else (bif c2 then ⟨2, []⟩ else (onO fs (fun r => r) (bif c3 then ⟨7, []⟩ else (bif c4 then ⟨2, []⟩ else ⟨0, B⟩))))) := by
  cases c1
  · cases c2
    · cases fs with
      | some r => exact hfs r rfl
      | none =>
        cases c3
        · cases c4
          · exact hB rfl
          · exact h _
        · exact h _
    · exact h _
  · exact h _
theorem outs_map (x2 : List Out) : ∀ (l : List Nat), (l.findSome? (fun (i0 : Nat) => (bif ((spec_l4Out_v (gt x2 (i0 : Int))) != 0) then (some ((⟨(spec_l4Out_v (gt x2 (i0 : Int))), ([] : List Coin)⟩ : CoinsResult))) else none))) = (l.findSome? (fun (i0 : Nat) => (bif ((spec_l4Out_v (gt x2 (i0 : Int))) != 0) then (some (([] : List Coin), (spec_l4Out_v (gt x2 (i0 : Int))))) else none))).map (fun r => ⟨r.2, r.1⟩)
  | [] => rfl
  | a :: l => by
    rw [List.findSome?_cons, List.findSome?_cons]
    cases (spec_l4Out_v (gt x2 (a : Int))) != 0
    · simpa using outs_map x2 l
    · rfl
theorem putCoins_eq (x0 : List Coin) (x1 : Int) (x2 : List Out) (x3 : Int) (x4 : Bool) (h0 : Lm smCoin x0) (h : spec_l4Fault_v x0 = 0) : (⟨(impl_putCoins_v x0 x1 x2 x3 x4).2, (impl_putCoins_v x0 x1 x2 x3 x4).1⟩ : CoinsResult) = spec_PutCoins_v x0 x1 x2 x3 x4 := by
  have e4 : impl_isId_v x1 = spec_l1In_v x1 1 60 := rfl
  have e5 : impl_isHeight_v x3 = spec_l2Height_v x3 := rfl
  have hf : (spec_l4Fault_v x0 != 0) = false := by rw [h]; rfl
  unfold spec_PutCoins_v impl_putCoins_v
  rw [hf, hasTx_same, e4, e5, outs_map]
  simp only [cond_false, outFault_same]
  exact put_shape _ _ _ _ _ _ _ (fun ho _ => (l4Put_sort x0 x1 x2 x3 x4 (rise_of h0 h) (hasTx_no (by rw [hasTx_same]; exact ho))).2.1)
theorem put_sm (x0 : List Coin) (x1 : Int) (x2 : List Out) (x3 : Int) (x4 : Bool) (h0 : Lm smCoin x0) (h2 : Lm smOut x2) (hl : x0.length + x2.length ≤ 1048576) : Lm smCoin (spec_l4Put_v x0 x1 x2 x3 x4) := by
  have hp : (spec_l4Put_v x0 x1 x2 x3 x4).Perm (x0 ++ news x1 x3 x4 x2) := l4Put_perm x1 x3 x4 x2 _ x0
  refine ⟨?_, fun c hc => ?_⟩
  · rw [hp.length_eq]; unfold news; simp; omega
  · rcases List.mem_append.1 (hp.mem_iff.1 hc) with hc | hc
    · exact h0.2 c hc
    · obtain ⟨i, hi, rfl⟩ := List.mem_map.1 hc
      have hlt : i < x2.length := by rw [List.mem_range'_1] at hi; omega
      exact ⟨⟨trivial, trivial⟩, h2.2 _ (gt_mem hlt), trivial, trivial⟩
theorem put_smr (x0 : List Coin) (x1 : Int) (x2 : List Out) (x3 : Int) (x4 : Bool) (h0 : Lm smCoin x0) (h2 : Lm smOut x2) : smCoinsResult (spec_PutCoins_v x0 x1 x2 x3 x4) := by
  have hl : ∀ (a : Int), smCoinsResult ⟨a, ([] : List Coin)⟩ := fun a => ⟨trivial, by simp, fun x hx => by cases hx⟩
  unfold spec_PutCoins_v
  cases (spec_l4Fault_v x0) != 0
  · simp only [cond_false]
    refine smr_shape smCoinsResult hl _ _ _ _ _ _ (fun r hr => ?_) (fun hw => ?_)
    · rw [outs_map] at hr
      cases hz : (List.range' 0 (x2.length - 0)).findSome? (fun (i0 : Nat) => (bif ((spec_l4Out_v (gt x2 (i0 : Int))) != 0) then (some (([] : List Coin), (spec_l4Out_v (gt x2 (i0 : Int))))) else none)) with
      | none => rw [hz] at hr; cases hr
      | some q =>
        rw [hz] at hr
        obtain ⟨i, _, hi⟩ := List.exists_of_findSome?_eq_some hz
        rw [← Option.some.inj hr]
        cases hq : (spec_l4Out_v (gt x2 (i : Int))) != 0
        · rw [hq] at hi; cases hi
        · rw [hq] at hi
          rw [← Option.some.inj hi]; exact hl _
    · have a1 := h0.1
      have a2 := h2.1
      have ew : wrap64 ((x0.length : Int) + (x2.length : Int)) = (x0.length : Int) + (x2.length : Int) := wrap64_in _ (by omega)
      rw [ew] at hw
      have := of_decide_eq_false hw
      exact ⟨trivial, put_sm x0 x1 x2 x3 x4 h0 h2 (by omega)⟩
  · simp only [cond_true]; exact hl _
theorem spendTx_eq (x0 : List Coin) (x1 : Tx) (x2 x3 : Int) (h0 : Lm smCoin x0) (h : spec_l4Fault_v x0 = 0) (h' : spec_l3Fault_v x1 = 0) : (⟨(impl_spendTx_v x0 x1 x2 x3).2, (impl_spendTx_v x0 x1 x2 x3).1⟩ : CoinsResult) = spec_SpendTx_v x0 x1 x2 x3 := by
  have hr := rise_of h0 h
  have e1 := spentBy_eq x0 x1 h0 h h'
  obtain ⟨f1, f2⟩ := take_fault h0 h x1.fIns
  unfold impl_spendTx_v spec_SpendTx_v
  rw [← e1, hasTx_same, ← take_same hr, ← putCoins_eq _ x2 x1.fOuts x3 false f2 f1]
  have hs : (impl_spentBy_v x0 x1).2 != 0 → (impl_spentBy_v x0 x1).1 = [] := by
    unfold impl_spentBy_v
    cases x1.fIns.all (fun r => (impl_findCoin_v x0 r).2)
    · intro _; rfl
    · intro h; exact absurd (show ((0 : Int) != 0) = true from h) (by decide)
  generalize impl_putCoins_v (impl_takeCoins_v x0 x1.fIns).1 x2 x1.fOuts x3 false = P
  generalize impl_spentBy_v x0 x1 = S at hs ⊢
  generalize spec_l4Of_v x0 x2 = o
  cases hz : S.2 != 0
  · cases o <;> rfl
  · show (⟨S.2, []⟩ : CoinsResult) = ⟨S.2, S.1⟩
    rw [hs hz]
theorem spendTx_smr (x0 : List Coin) (x1 : Tx) (x2 x3 : Int) (h0 : Lm smCoin x0) (h1 : smTx x1) : smCoinsResult (spec_SpendTx_v x0 x1 x2 x3) := by
  have hp := put_smr (spec_l4Take_v x0 x1.fIns).1 x2 x1.fOuts x3 false (l4Take_sub x0 x1.fIns h0) h1.2.2.2
  have hb := spentBy_smr x0 x1 h0 h1
  unfold spec_SpendTx_v
  generalize spec_PutCoins_v (spec_l4Take_v x0 x1.fIns).1 x2 x1.fOuts x3 false = P at hp ⊢
  generalize spec_SpentBy_v x0 x1 = S at hb ⊢
  cases S.fCode != 0
  · cases spec_l4Of_v x0 x2
    · exact hp
    · exact ⟨trivial, by simp, fun x hx => by cases hx⟩
  · exact hb
theorem same_FnExactSpendTx (x0 : List Coin) (h0 : Lm smCoin x0) (o0 : Lok okCoin x0) (x1 : Tx) (h1 : smTx x1) (o1 : okTx x1) (x2 : Int) (o2 : iOk .i64 x2) (x3 : Int) (o3 : iOk .i64 x3) : impl_SpendTx_v x0 x1 x2 x3 = spec_SpendTx_v x0 x1 x2 x3 := by
  cases hf : (spec_l4Fault_v x0) != 0
  · cases hg : (spec_l3Fault_v x1) != 0
    · rw [← spendTx_eq x0 x1 x2 x3 h0 (by simpa using hf) (by simpa using hg)]
      unfold impl_SpendTx_v
      rw [coinsFault_same, txFault_same, hf, hg]
      simp only [cond_false]
    · have e : spec_SpentBy_v x0 x1 = ⟨spec_l3Fault_v x1, []⟩ := by unfold spec_SpentBy_v; rw [hf, hg]; simp only [cond_true, cond_false]
      unfold impl_SpendTx_v spec_SpendTx_v
      rw [coinsFault_same, txFault_same, e, hf, hg]
      simp only [cond_true, cond_false, hg]
  · have e : spec_SpentBy_v x0 x1 = ⟨spec_l4Fault_v x0, []⟩ := by unfold spec_SpentBy_v; rw [hf]; simp only [cond_true]
    unfold impl_SpendTx_v spec_SpendTx_v
    rw [coinsFault_same, e, hf]
    simp only [cond_true, hf]
theorem smr_FnExactSpendTx (x0 : List Coin) (h0 : Lm smCoin x0) (o0 : Lok okCoin x0) (x1 : Tx) (h1 : smTx x1) (o1 : okTx x1) (x2 : Int) (o2 : iOk .i64 x2) (x3 : Int) (o3 : iOk .i64 x3) : smCoinsResult (spec_SpendTx_v x0 x1 x2 x3) := spendTx_smr x0 x1 x2 x3 h0 h1
end Go.Proofs.YtcamddjlhchkfaaGreat.Zk
namespace Go.Proofs.YtcamddjlhchkfaaGreat.Pure
open Go Go.Proofs.YtcamddjlhchkfaaGreat.Zk
theorem FnExactSpendTx (x0 : List Zk.Coin) (x1 : Zk.Tx) (x2 : Int) (x3 : Int) (o_x0 : (Lok okCoin) x0) (o_x1 : okTx x1) (o_x2 : (iOk .i64) x2) (o_x3 : (iOk .i64) x3) : ∃ k, laws_FnExactSpendTx.f k x0 x1 x2 x3 = some true := by
  refine Evt.get ?_
  obtain ⟨t0, e0, l0, s0⟩ := szCoinS_ev x0 o_x0 1048576 (by omega) (by omega)
  by_cases c0 : t0 < 0
  · exact Evt.bind e0 (Evt.t (by simpa using c0) (Evt.self _))
  refine Evt.bind e0 (Evt.f (by simpa using c0) ?_)
  have m0 := s0 (by omega)
  obtain ⟨t1, e1, l1, s1⟩ := szTx_ev x1 o_x1 t0 (by omega) (by omega)
  by_cases c1 : t1 < 0
  · exact Evt.bind e1 (Evt.t (by simpa using c1) (Evt.self _))
  refine Evt.bind e1 (Evt.f (by simpa using c1) ?_)
  have m1 := s1 (by omega)
  refine Evt.bind (toCoinS_ev x0 (m0)) ?_
  refine Evt.bind (toTx_ev x1 (m1)) ?_
  refine Evt.bind (spec_SpendTx_ev x0 x1 x2 x3 (m0) (m1)) ?_
  refine Evt.bind (toCoinS_ev x0 (m0)) ?_
  refine Evt.bind (toTx_ev x1 (m1)) ?_
  refine Evt.bind ((impl_SpendTx_ev x0 x1 x2 x3 (m0) (m1)).to (same_FnExactSpendTx x0 (m0) o_x0 x1 (m1) o_x1 x2 o_x2 x3 o_x3)) ?_
  refine Evt.bind (eqCoinsResult_ev _ (smr_FnExactSpendTx x0 (m0) o_x0 x1 (m1) o_x1 x2 o_x2 x3 o_x3)) (Evt.f rfl ?_)
  refine Evt.bind (toCoinS_ev x0 (m0)) ?_
  refine Evt.bind (eqCoinS_ev _ (m0)) (Evt.f rfl ?_)
  refine Evt.bind (toTx_ev x1 (m1)) ?_
  refine Evt.bind (eqTx_ev _ (m1)) (Evt.f rfl ?_)
  obtain ⟨y2_0, t2, l2, u2, e2, g2⟩ := markCoinS_mh x0 m0 1 (by omega) (by omega)
  refine Evt.bind e2 ?_
  dsimp only
  obtain ⟨y3_0, y3_1, t3, l3, u3, e3⟩ := markTx_mh x1 m1 (t2, y2_0).1 (by omega) (by omega)
  refine Evt.bind e3 ?_
  dsimp only
  refine Evt.bind (Evt.t (by simp; omega) (eqCoinsResult_ev _ (smr_FnExactSpendTx x0 (m0) o_x0 x1 (m1) o_x1 x2 o_x2 x3 o_x3))) (Evt.f (by simp; omega) ?_)
  obtain ⟨y4_0, t4, l4, u4, e4, g4⟩ := markCoinsResult_mh (spec_SpendTx_v x0 x1 x2 x3) (smr_FnExactSpendTx x0 (m0) o_x0 x1 (m1) o_x1 x2 o_x2 x3 o_x3) 1 (by omega) (by omega)
  refine Evt.bind e4 ?_
  dsimp only
  refine Evt.bind g4 ?_
  refine Evt.f (by simp; try omega) ?_
  refine Evt.f (by simp; try omega) ?_
  refine Evt.bind (toCoinS_ev x0 (m0)) ?_
  refine Evt.bind (toTx_ev x1 (m1)) ?_
  refine Evt.bind ((impl_SpendTx_ev x0 x1 x2 x3 (m0) (m1)).to (same_FnExactSpendTx x0 (m0) o_x0 x1 (m1) o_x1 x2 o_x2 x3 o_x3)) ?_
  refine Evt.bind (eqCoinsResult_ev _ (smr_FnExactSpendTx x0 (m0) o_x0 x1 (m1) o_x1 x2 o_x2 x3 o_x3)) (Evt.f rfl ?_)
  refine Evt.bind g4 ?_
  refine Evt.f (by simp; try omega) ?_
  refine Evt.f (by simp; try omega) ?_
  exact Evt.self _
end Go.Proofs.YtcamddjlhchkfaaGreat.Pure
