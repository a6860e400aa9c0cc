/- The plain law of FnExactTakeCoins: what the program's function and the reference's compute is the same. No condition. -/
import Derived.Test.YtigojhglkilodaaZkPure
import Derived.Test.YtigojhglkilodaaTakeCoinsZkOpn
import Derived.Test.YtigojhglkilodaaTakeCoinsZkF7
namespace Go.Proofs.Ytigojhglkilodaa.Zk
open Go Go.RowKit Go.IntWalk
set_option linter.unusedVariables false
set_option linter.unusedSimpArgs false

def szL (n : Nat) (l : Int) : Int := bif decide (wrap64 (l - n) < 0) then -1 else wrap64 (l - n)
theorem szL_ok {n : Nat} {l : Int} (h : decide (szL n l < 0) = false) (h0 : 0 ≤ l) (h1 : l ≤ 1048576) (hn : n ≤ maxLen) : (n : Int) ≤ l ∧ szL n l = l - n := by
  unfold szL at *
  have hn' : n ≤ 9223372036854775807 := by simpa [maxLen] using hn
  have e : wrap64 (l - n) = l - n := by unfold wrap64; omega
  rw [e] at h ⊢
  by_cases hc : l - (n : Int) < 0
  · rw [decide_eq_true hc] at h; cases h
  · rw [decide_eq_false hc]; exact ⟨by omega, rfl⟩
theorem szL_le {n : Nat} {l : Int} (h0 : 0 ≤ l) (h1 : l ≤ 1048576) (hn : n ≤ maxLen) : szL n l ≤ l := by
  unfold szL
  have hn' : n ≤ 9223372036854775807 := by simpa [maxLen] using hn
  have e : wrap64 (l - n) = l - n := by unfold wrap64; omega
  rw [e]
  by_cases hc : l - (n : Int) < 0
  · rw [decide_eq_true hc]; show (-1 : Int) ≤ l; omega
  · rw [decide_eq_false hc]; show l - (n : Int) ≤ l; omega
theorem nn {l : Int} (h : decide (l < 0) = false) : 0 ≤ l := by simpa using h
abbrev tr {α : Type} (x : α) : Prop := True
def Lm {α : Type} (sm : α → Prop) (xs : List α) : Prop := xs.length ≤ 1048576 ∧ ∀ x ∈ xs, sm x
theorem gt_mem {α : Type} [Inhabited α] {xs : List α} {i : Nat} (h : i < xs.length) : gt xs (i : Int) ∈ xs := by
  rw [gt_eq (i := (i : Int)) (by simpa using h)]
  exact List.getElem_mem _
/-- Sizes, added up. -/
theorem Evt.szl {α : Type} [Inhabited α] {L : Nat → Int → Int → Option (Int ⊕ Int)} {sm : α → Prop} (xs : List α) (hn : xs.length ≤ 9223372036854775807)
    (step : ∀ i, i < xs.length → ∀ left, 0 ≤ left → left ≤ 1048576 → ∃ t, t ≤ left ∧ (0 ≤ t → sm (gt xs (i : Int))) ∧ (t < 0 → Evt (fun k => L k left (i : Int)) (.inl (-1))) ∧ ∀ o, 0 ≤ t → Evt (fun k => L k t (wrap64 ((i : Int) + 1))) o → Evt (fun k => L k left (i : Int)) o)
    (done : ∀ left, Evt (fun k => L k left (xs.length : Int)) (.inr left)) (l : Int) (h0 : 0 ≤ l) (h1 : l ≤ 1048576) :
    ∃ o, Evt (fun k => L k l 0) o ∧ match o with | .inl r => r = -1 | .inr t => 0 ≤ t ∧ t ≤ l ∧ ∀ x ∈ xs, sm x := by
  have key : ∀ d i l, i + d = xs.length → 0 ≤ l → l ≤ 1048576 → ∃ o, Evt (fun k => L k l (i : Int)) o ∧ match o with | .inl r => r = -1 | .inr t => 0 ≤ t ∧ t ≤ l ∧ ∀ j, i ≤ j → j < xs.length → sm (gt xs (j : Int)) := by
    intro d
    induction d with
    | zero =>
      intro i l hi h0 h1
      have e : i = xs.length := by omega
      subst e
      exact ⟨_, done l, h0, by omega, fun j h2 h3 => by omega⟩
    | succ d ih =>
      intro i l hi h0 h1
      obtain ⟨t, a1, a2, a3, a4⟩ := step i (by omega) l h0 h1
      by_cases c : t < 0
      · exact ⟨_, a3 c, rfl⟩
      · obtain ⟨o, b1, b2⟩ := ih (i + 1) t (by omega) (by omega) (by omega)
        refine ⟨o, a4 o (by omega) (by rw [w64 (by omega : i < xs.length) hn]; exact b1), ?_⟩
        cases o with
        | inl r => exact b2
        | inr u =>
          refine ⟨b2.1, by have := b2.2.1; omega, fun j h2 h3 => ?_⟩
          by_cases e : j = i
          · subst e; exact a2 (by omega)
          · exact b2.2.2 j (by omega) h3
  obtain ⟨o, b1, b2⟩ := key xs.length 0 l (by omega) h0 h1
  refine ⟨o, b1, ?_⟩
  cases o with
  | inl r => exact b2
  | inr u =>
    refine ⟨b2.1, b2.2.1, fun x hx => ?_⟩
    obtain ⟨j, hj, e⟩ := List.getElem_of_mem hx
    have := b2.2.2 j (by omega) hj
    rw [gt_eq (i := (j : Int)) (by simpa using hj)] at this
    simpa [e] using this

theorem Evt_t2 {β : Type} {f g nxt : Nat → Option (β ⊕ Unit)} {c : Bool} {v : Option β} (hc : c = true) (h : StE f nxt v) : StE (fun n => bif c then f n else g n) nxt v := by subst hc; exact h
theorem Lm_take {α : Type} {sm : α → Prop} {xs : List α} {n : Nat} (h : Lm sm xs) : Lm sm (xs.take n) := ⟨by have := h.1; rw [List.length_take]; omega, fun x hx => h.2 x (List.mem_of_mem_take hx)⟩
theorem Lm_drop {α : Type} {sm : α → Prop} {xs : List α} {n : Nat} (h : Lm sm xs) : Lm sm (xs.drop n) := ⟨by have := h.1; rw [List.length_drop]; omega, fun x hx => h.2 x (List.mem_of_mem_drop hx)⟩
/-! searches, told by 'any' -/
theorem found_any {β γ : Type} (l : List Nat) (p : Nat → Bool) (a : β) (r : β → γ) (c : γ) : onO (l.findSome? fun i => bif p i then some a else none) r c = bif l.any p then r a else c := by
  induction l with
  | nil => rfl
  | cons i l ih =>
    rw [List.findSome?_cons, List.any_cons]
    cases p i
    · simpa using ih
    · rfl
theorem idx_any (l : List Nat) (p : Nat → Bool) : decide (0 ≤ onO (l.findSome? fun i => bif p i then some (i : Int) else none) (fun r => r) (-1)) = l.any p := by
  induction l with
  | nil => rfl
  | cons i l ih =>
    rw [List.findSome?_cons, List.any_cons]
    cases p i
    · simpa using ih
    · simp [onO]
theorem band1 {c d e : Bool} : (c && (bif c then d else e)) = (c && d) := by cases c <;> rfl
theorem bor1 {c d e : Bool} : (c || (bif !c then d else e)) = (c || d) := by cases c <;> rfl
theorem bnn1 {c d e : Bool} : ((!c) || (!(bif (!(!c)) then d else e))) = ((!c) || (!d)) := by cases c <;> rfl
theorem bnn2 {c d : Bool} : ((!c) || (!d)) = !(c && d) := by cases c <;> rfl
theorem bnn3 {c d e : Bool} : ((!c) || (!(bif !(!c) then d else e))) = !(c && d) := by cases c <;> rfl
theorem bn_n {c d e : Bool} : (!c || !(bif c then d else e)) = !(c && d) := by cases c <;> rfl
theorem rng1 {a lo hi : Int} : (decide (a < lo) || decide (hi < a)) = !(decide (lo ≤ a) && decide (a ≤ hi)) := by
  by_cases h1 : a < lo
  · have : ¬ lo ≤ a := by omega
    simp [h1, this]
  · have h2 : lo ≤ a := by omega
    by_cases h3 : hi < a
    · have : ¬ a ≤ hi := by omega
      simp [h1, h2, h3, this]
    · have : a ≤ hi := by omega
      simp [h1, h2, h3, this]
theorem at_any (l : List Nat) (p : Nat → Bool) (h : ∀ i ∈ l, i < 4611686018427387904) : decide (0 < onO (l.findSome? fun i => bif p i then some (wrap64 ((i : Int) + 1)) else none) (fun r => r) 0) = l.any p := by
  induction l with
  | nil => rfl
  | cons i l ih =>
    rw [List.findSome?_cons, List.any_cons]
    have hi := h i (by simp)
    have hl : ∀ j ∈ l, j < 4611686018427387904 := fun j hj => h j (List.mem_cons_of_mem _ hj)
    clear h
    cases p i
    · exact ih hl
    · have e : wrap64 ((i : Int) + 1) = (i : Int) + 1 := by unfold wrap64; omega
      rw [e]
      show decide (0 < (i : Int) + 1) = true
      exact decide_eq_true (by omega)
theorem fs_congr {β : Type} {l : List Nat} {f g : Nat → Option β} (h : ∀ i ∈ l, f i = g i) : l.findSome? f = l.findSome? g := by
  induction l with
  | nil => rfl
  | cons i l ih => rw [List.findSome?_cons, List.findSome?_cons, h i (by simp), ih fun j hj => h j (by simp [hj])]
theorem any_congr' {l : List Nat} {f g : Nat → Bool} (h : ∀ i ∈ l, f i = g i) : l.any f = l.any g := by
  induction l with
  | nil => rfl
  | cons i l ih => rw [List.any_cons, List.any_cons, h i (by simp), ih fun j hj => h j (by simp [hj])]
theorem in_range {i n : Nat} (h : i ∈ List.range' 0 (n - 0)) : i < n := by
  have := List.mem_range'_1.1 h
  omega
theorem gt_take {α : Type} [Inhabited α] {xs : List α} {n j : Nat} (h : j < n) : gt (xs.take n) (j : Int) = gt xs (j : Int) := by
  unfold gt
  have e : ((j : Int)).toNat = j := by simp
  rw [e, List.getD_eq_getElem?_getD, List.getD_eq_getElem?_getD, List.getElem?_take, if_pos h]
theorem any_take {α : Type} [Inhabited α] {xs : List α} {i : Nat} (h : i ≤ xs.length) (p : α → Bool) :
    (List.range' 0 ((xs.take i).length - 0)).any (fun j => p (gt (xs.take i) (j : Int))) = (List.range' 0 (i - 0)).any (fun j => p (gt xs (j : Int))) := by
  have e : (xs.take i).length = i := by rw [List.length_take]; omega
  rw [e]
  exact any_congr' fun j hj => by rw [gt_take (in_range hj)]
theorem sEq_comm (a b : ByteArray) : sEq a b = sEq b a := by unfold sEq; exact BEq.comm
theorem bifb {b : Bool} : (bif b then true else false) = b := by cases b <;> rfl
theorem idx_found {n : Nat} {p : Nat → Bool} (h : 0 ≤ onO ((List.range' 0 (n - 0)).findSome? fun i => bif p i then some (i : Int) else none) (fun r => r) (-1)) : idxOk (onO ((List.range' 0 (n - 0)).findSome? fun i => bif p i then some (i : Int) else none) (fun r => r) (-1)) n = true := by
  have key : ∀ l : List Nat, (∀ i ∈ l, i < n) → 0 ≤ onO (l.findSome? fun i => bif p i then some (i : Int) else none) (fun r => r) (-1) → idxOk (onO (l.findSome? fun i => bif p i then some (i : Int) else none) (fun r => r) (-1)) n = true := by
    intro l
    induction l with
    | nil => intro _ h; exact absurd h (by show ¬ (0 : Int) ≤ -1; omega)
    | cons i l ih =>
      intro hl h
      rw [List.findSome?_cons] at h ⊢
      cases hp : p i
      · rw [hp] at h; exact ih (fun j hj => hl j (List.mem_cons_of_mem _ hj)) h
      · exact idx_ok (hl i (List.mem_cons_self ..))
  exact key _ (fun i hi => in_range hi) h
theorem cut_ok {i n : Nat} (h : i ≤ n) : cutOk (i : Int) n = true := by unfold cutOk; simp; omega
theorem len_eq {a b : Nat} (h : ((a : Int) != (b : Int)) = false) : a = b := by
  by_cases e : a = b
  · exact e
  · have : ((a : Int) != (b : Int)) = true := by simp; omega
    rw [this] at h; cases h

abbrev smRef (x : Ref) : Prop := tr x.fTx ∧ tr x.fAt
abbrev smRule (x : Rule) : Prop := (Lm tr) x.fKeys ∧ tr x.fNeed ∧ tr x.fAfter
abbrev smOut (x : Out) : Prop := tr x.fValue ∧ smRule x.fRule
abbrev smCoin (x : Coin) : Prop := smRef x.fRef ∧ smOut x.fOut ∧ tr x.fHeight ∧ tr x.fMined
abbrev smCoinsResult (x : CoinsResult) : Prop := tr x.fCode ∧ (Lm smCoin) x.fCoins
/-! ### Rows marked, and held so -/
theorem chkT {α : Type} (t : Option α) : Zk.chk true t = t := rfl
theorem gt_set {α : Type} [Inhabited α] {xs : List α} {i : Nat} (h : i < xs.length) (a : α) : gt (xs.set i a) (i : Int) = a := by
  rw [gt_eq (by simpa using h)]; simp
theorem mark_held {α : Type} [Inhabited α] (L : Nat → List α → Int → Int → Option (List α × Int)) (H : List α → Nat → Int → Int → Option (Int ⊕ Int)) (B : Prop) (c : Int) (hc : 0 ≤ c) (p : α → Prop)
    (step : ∀ (acc : List α) (s : Int) (i : Nat), i < acc.length → p (gt acc (i : Int)) → 1 ≤ s → s + c ≤ 4611686018427387904 → ∃ y t, s ≤ t ∧ t ≤ s + c ∧ (∀ r, Evt (fun k => L k (acc.set i y) t (wrap64 ((i : Int) + 1))) r → Evt (fun k => L (k + 1) acc s (i : Int)) r) ∧
      (B → ∀ ys : List α, i < ys.length → gt ys (i : Int) = y → ∀ r, Evt (fun k => H ys k t (wrap64 ((i : Int) + 1))) r → Evt (fun k => H ys (k + 1) s (i : Int)) r))
    (doneL : ∀ (acc : List α) (s : Int), Evt (fun k => L (k + 1) acc s (acc.length : Int)) (acc, s)) (doneH : B → ∀ (ys : List α) (s : Int), Evt (fun k => H ys (k + 1) s (ys.length : Int)) (.inr s))
    (xs : List α) (hn : xs.length ≤ 9223372036854775807) (hp : ∀ x ∈ xs, p x) (s : Int) (h1 : 1 ≤ s) (h2 : s + xs.length * c ≤ 4611686018427387904) :
    ∃ ys t, ys.length = xs.length ∧ s ≤ t ∧ t ≤ s + xs.length * c ∧ Evt (fun k => L k xs s 0) (ys, t) ∧ (B → Evt (fun k => H ys k s 0) (.inr t)) := by
  have key : ∀ (d i : Nat) (acc : List α) (s : Int), i + d = xs.length → acc.length = xs.length → (∀ j, i ≤ j → acc[j]? = xs[j]?) → 1 ≤ s → s + d * c ≤ 4611686018427387904 →
      ∃ ys t, ys.length = xs.length ∧ (∀ j, j < i → ys[j]? = acc[j]?) ∧ s ≤ t ∧ t ≤ s + d * c ∧ Evt (fun k => L k acc s (i : Int)) (ys, t) ∧ (B → Evt (fun k => H ys k s (i : Int)) (.inr t)) := by
    intro d
    induction d with
    | zero =>
      intro i acc s hi hl _ h1 h2
      have e : (i : Int) = (acc.length : Int) := by omega
      exact ⟨acc, s, hl, fun _ _ => rfl, by omega, by omega, by rw [e]; exact Evt.s (doneL acc s), fun hB => by rw [e]; exact Evt.s (doneH hB acc s)⟩
    | succ d ih =>
      intro i acc s hi hl hj h1 h2
      have e : ((d + 1 : Nat) : Int) * c = d * c + c := by rw [Int.natCast_add, Int.add_mul]; simp
      have hdc : 0 ≤ (d : Int) * c := Int.mul_nonneg (by omega) hc
      rw [e] at h2
      have hlt : i < acc.length := by omega
      have hpx : p (gt acc (i : Int)) := by
        rw [gt_eq (by simpa using hlt)]
        have h5 := hj i (Nat.le_refl _)
        rw [List.getElem?_eq_getElem hlt] at h5
        exact hp _ (List.mem_of_getElem? h5.symm)
      obtain ⟨y, t1, a1, a2, a3, a4⟩ := step acc s i hlt hpx h1 (by omega)
      obtain ⟨ys, t, b1, b2, b3, b4, b5, b6⟩ := ih (i + 1) (acc.set i y) t1 (by omega) (by simp [hl]) (fun j hj' => by rw [List.getElem?_set_ne (by omega)]; exact hj j (by omega)) (by omega) (by omega)
      have hy : gt ys (i : Int) = y := by
        have h6 := b2 i (by omega)
        rw [List.getElem?_set_self hlt] at h6
        rw [gt_eq (by simp; omega)]
        have h7 : i < ys.length := by omega
        rw [List.getElem?_eq_getElem h7] at h6
        simpa using h6
      refine ⟨ys, t, b1, fun j hj' => ?_, by omega, by rw [e]; omega, Evt.s (a3 _ ?_), fun hB => Evt.s (a4 hB ys (by omega) hy _ ?_)⟩
      · rw [b2 j (by omega), List.getElem?_set_ne (by omega)]
      · rw [w64 (by omega : i < xs.length) hn]; exact b5
      · rw [w64 (by omega : i < xs.length) hn]; exact b6 hB
  obtain ⟨ys, t, a1, _, a3, a4, a5, a6⟩ := key xs.length 0 xs s (by omega) rfl (fun _ _ => rfl) h1 h2
  exact ⟨ys, t, a1, a3, a4, a5, a6⟩
/-! ### What is gathered in a row -/
theorem len_bif {α : Type} {c : Bool} {a b : List α} {n : Nat} (h : a.length ≤ n) (k : b.length ≤ n) : (bif c then a else b).length ≤ n := by cases c; exact k; exact h
theorem Evt.gatherL {σ : Type} {L : Nat → List σ → Int → Option (List σ)} (n : Nat) (hn : n ≤ 1048576) (st : List σ → Nat → List σ)
    (len : ∀ i, i < n → ∀ a, a.length ≤ i → (st a i).length ≤ i + 1)
    (step : ∀ i, i < n → ∀ a, a.length ≤ i → ∀ o, Evt (fun k => L k (st a i) (wrap64 ((i : Int) + 1))) o → Evt (fun k => L (k + 1) a (i : Int)) o)
    (done : ∀ (i : Nat) a, n ≤ i → Evt (fun k => L (k + 1) a (i : Int)) a) : Evt (fun k => L k [] 0) ((List.range' 0 (n - 0)).foldl st []) := by
  have key : ∀ d i (a : List σ), (i + d = n ∨ n ≤ i ∧ d = 0) → a.length ≤ i → Evt (fun k => L k a (i : Int)) ((List.range' i d).foldl st a) := by
    intro d
    induction d with
    | zero => intro i a hi _; exact Evt.s (done i a (by omega))
    | succ d ih =>
      intro i a hi ha
      rw [List.range'_succ, List.foldl_cons]
      refine Evt.s (step i (by omega) a ha _ ?_)
      rw [w64 (by omega : i < n) (by omega)]
      exact ih (i + 1) (st a i) (by omega) (len i (by omega) a ha)
  exact key (n - 0) 0 [] (by omega) (by simp)
theorem fold_len {σ : Type} (st : List σ → Nat → List σ) (h : ∀ a i, (st a i).length ≤ a.length + 1) : ∀ (l : List Nat) (a : List σ), (l.foldl st a).length ≤ a.length + l.length
  | [], a => by simp
  | i :: l, a => by
    have h1 := fold_len st h l (st a i)
    have h2 := h a i
    simp only [List.foldl_cons, List.length_cons]; omega
theorem fold_len0 {σ : Type} (st : List σ → Nat → List σ) (h : ∀ a i, (st a i).length ≤ a.length + 1) (n : Nat) : ((List.range' 0 (n - 0)).foldl st []).length ≤ n := by
  have := fold_len st h (List.range' 0 (n - 0)) []
  simpa using this
theorem cut_next {t : Int} {n : Nat} (h : idxOk t n = true) (hn : n ≤ 1048576) : cutOk (wrap64 (t + 1)) n = true := by
  have h1 := idx_lo h
  have h2 := idx_hi h
  rw [wrap64_in _ (by omega)]
  unfold cutOk; simp; omega
theorem cut_self {t : Int} {n : Nat} (h : idxOk t n = true) (hn : n ≤ 1048576) : cutOk t (wrap64 (t + 1)).toNat = true := by
  have h1 := idx_lo h
  have h2 := idx_hi h
  rw [wrap64_in _ (by omega)]
  unfold cutOk; simp; omega
theorem Lm_gath {α : Type} [Inhabited α] {sm : α → Prop} (x0 : List α) (h : Lm sm x0) (c : Nat → Bool) : Lm sm ((List.range' 0 (x0.length - 0)).foldl (fun ac (i : Nat) => bif c i then ac ++ ([gt x0 (i : Int)] : List α) else ac) ([] : List α)) := by
  have key : ∀ d i (a : List α), i + d = x0.length → (∀ x ∈ a, sm x) → a.length ≤ i → (∀ x ∈ (List.range' i d).foldl (fun ac (i : Nat) => bif c i then ac ++ ([gt x0 (i : Int)] : List α) else ac) a, sm x) ∧ ((List.range' i d).foldl (fun ac (i : Nat) => bif c i then ac ++ ([gt x0 (i : Int)] : List α) else ac) a).length ≤ x0.length := by
    intro d
    induction d with
    | zero => intro i a hi ha hl; exact ⟨ha, by show a.length ≤ _; omega⟩
    | succ d ih =>
      intro i a hi ha hl
      rw [List.range'_succ, List.foldl_cons]
      refine ih (i + 1) _ (by omega) ?_ ?_
      · cases c i
        · exact ha
        · intro x hx
          rw [cond_true, List.mem_append] at hx
          rcases hx with hx | hx
          · exact ha x hx
          · rw [List.mem_singleton] at hx; subst hx; exact h.2 _ (gt_mem (by omega))
      · cases c i
        · show a.length ≤ i + 1; omega
        · simp; omega
  obtain ⟨h1, h2⟩ := key x0.length 0 [] (by omega) (fun x hx => by cases hx) (by simp)
  exact ⟨Nat.le_trans h2 h.1, h1⟩
/-! ### A loop over a row, with a state that turns, or an early end -/
def stepAll {σ τ : Type} (g : σ → τ → Option σ) : σ → List τ → Option σ
  | s, [] => some s
  | s, r :: rs => match g s r with
    | none => none
    | some t => stepAll g t rs
theorem Evt.steps {σ τ β : Type} [Inhabited τ] {L : Nat → σ → Int → Option (β ⊕ σ)} (rs : List τ) (hn : rs.length ≤ 9223372036854775807) (I : σ → Prop) (g : σ → τ → Option σ) (bad : β)
    (step : ∀ i, i < rs.length → ∀ s, I s → ∀ o, (∀ t, g s (gt rs (i : Int)) = some t → Evt (fun k => L k t (wrap64 ((i : Int) + 1))) o) → (g s (gt rs (i : Int)) = none → o = .inl bad) → Evt (fun k => L (k + 1) s (i : Int)) o)
    (pres : ∀ s r t, I s → g s r = some t → I t) (done : ∀ s, Evt (fun k => L (k + 1) s (rs.length : Int)) (.inr s)) (s : σ) (hs : I s) :
    Evt (fun k => L k s 0) (match stepAll g s rs with | some t => .inr t | none => .inl bad) := by
  have key : ∀ d i s, i + d = rs.length → I s → Evt (fun k => L k s (i : Int)) (match stepAll g s (rs.drop i) with | some t => .inr t | none => .inl bad) := by
    intro d
    induction d with
    | zero =>
      intro i s hi hs
      rw [List.drop_of_length_le (by omega)]
      have e : i = rs.length := by omega
      subst e
      exact Evt.s (done s)
    | succ d ih =>
      intro i s hi hs
      have hlt : i < rs.length := by omega
      rw [List.drop_eq_getElem_cons hlt]
      have hg : gt rs (i : Int) = rs[i] := gt_eq (by simpa using hlt)
      refine Evt.s (step i hlt s hs _ (fun t ht => ?_) (fun ht => ?_))
      · rw [hg] at ht
        rw [w64 hlt hn]
        have := ih (i + 1) t (by omega) (pres _ _ _ hs ht)
        simp only [stepAll, ht]
        exact this
      · rw [hg] at ht
        simp only [stepAll, ht]
  exact key rs.length 0 s (by omega) hs
theorem stepAll_pres {σ τ : Type} {g : σ → τ → Option σ} {I : σ → Prop} (pres : ∀ s r t, I s → g s r = some t → I t) : ∀ (rs : List τ) (s t : σ), I s → stepAll g s rs = some t → I t
  | [], s, t, hs, h => by cases h; exact hs
  | r :: rs, s, t, hs, h => by
    simp only [stepAll] at h
    cases hg : g s r with
    | none => rw [hg] at h; cases h
    | some u => rw [hg] at h; exact stepAll_pres pres rs u t (pres _ _ _ hs hg) h
theorem stepAll_same {σ τ : Type} {g g' : σ → τ → Option σ} {I : σ → Prop} (pres : ∀ s r t, I s → g s r = some t → I t) (same : ∀ s r, I s → g s r = g' s r) : ∀ (rs : List τ) (s : σ), I s → stepAll g s rs = stepAll g' s rs
  | [], s, _ => rfl
  | r :: rs, s, hs => by
    simp only [stepAll]
    rw [← same s r hs]
    cases hg : g s r with
    | none => rfl
    | some u => exact stepAll_same pres same rs u (pres _ _ _ hs hg)
theorem Lm_sub {α : Type} {sm : α → Prop} {xs ys : List α} (h : Lm sm xs) (s : ys.Sublist xs) : Lm sm ys := ⟨Nat.le_trans s.length_le h.1, fun x hx => h.2 x (s.subset hx)⟩
theorem cut_sub {α : Type} (xs : List α) {a b : Nat} (h : a ≤ b) : (xs.take a ++ xs.drop b).Sublist xs := by
  have h1 : (xs.take a ++ xs.drop b).Sublist (xs.take a ++ xs.drop a) := List.Sublist.append (.refl _) (by
    have e : xs.drop b = (xs.drop a).drop (b - a) := by rw [List.drop_drop]; congr 1; omega
    rw [e]; exact List.drop_sublist _ _)
  rw [List.take_append_drop] at h1
  exact h1
theorem szInt64S_ev (x : List Int) (o : (Lok (iOk .i64)) x) (l : Int) (h0 : 0 ≤ l) (h1 : l ≤ 1048576) : ∃ t, Evt (fun k => laws_szInt64S.f k x l) t ∧ t ≤ l ∧ (0 ≤ t → (Lm tr) x) := by
  have hn := o.1
  exact ⟨szL x.length l, Evt.if_ (Evt.self _) (Evt.self _), szL_le h0 h1 hn, fun h => ⟨by have := szL_ok (n := x.length) (l := l) (by simpa using h) h0 h1 hn; omega, by simp⟩⟩
theorem szRule_ev (x : Rule) (o : okRule x) (l : Int) (h0 : 0 ≤ l) (h1 : l ≤ 1048576) : ∃ t, Evt (fun k => laws_szRule.f k x l) t ∧ t ≤ l ∧ (0 ≤ t → smRule x) := by
  obtain ⟨t0, e0, l0, s0⟩ := szInt64S_ev x.fKeys o.1 l (by omega) (by omega)
  by_cases c0 : t0 < 0
  · exact ⟨-1, Evt.bind e0 (Evt.t (by simpa using c0) (Evt.self _)), by omega, fun h => by omega⟩
  exact ⟨t0, Evt.bind e0 (Evt.f (by simpa using c0) (Evt.self _)), by omega, fun _ => ⟨s0 (by omega), (by repeat' (first | trivial | constructor)), (by repeat' (first | trivial | constructor))⟩⟩
theorem szOut_ev (x : Out) (o : okOut x) (l : Int) (h0 : 0 ≤ l) (h1 : l ≤ 1048576) : ∃ t, Evt (fun k => laws_szOut.f k x l) t ∧ t ≤ l ∧ (0 ≤ t → smOut x) := by
  obtain ⟨t0, e0, l0, s0⟩ := szRule_ev x.fRule o.2 l (by omega) (by omega)
  by_cases c0 : t0 < 0
  · exact ⟨-1, Evt.bind e0 (Evt.t (by simpa using c0) (Evt.self _)), by omega, fun h => by omega⟩
  exact ⟨t0, Evt.bind e0 (Evt.f (by simpa using c0) (Evt.self _)), by omega, fun _ => ⟨(by repeat' (first | trivial | constructor)), s0 (by omega)⟩⟩
theorem szCoin_ev (x : Coin) (o : okCoin x) (l : Int) (h0 : 0 ≤ l) (h1 : l ≤ 1048576) : ∃ t, Evt (fun k => laws_szCoin.f k x l) t ∧ t ≤ l ∧ (0 ≤ t → smCoin x) := by
  obtain ⟨t0, e0, l0, s0⟩ := szOut_ev x.fOut o.2.1 l (by omega) (by omega)
  by_cases c0 : t0 < 0
  · exact ⟨-1, Evt.bind e0 (Evt.t (by simpa using c0) (Evt.self _)), by omega, fun h => by omega⟩
  exact ⟨t0, Evt.bind e0 (Evt.f (by simpa using c0) (Evt.self _)), by omega, fun _ => ⟨(by repeat' (first | trivial | constructor)), s0 (by omega), (by repeat' (first | trivial | constructor)), (by repeat' (first | trivial | constructor))⟩⟩
theorem szCoinS_ev (x : List Coin) (o : (Lok okCoin) x) (l : Int) (h0 : 0 ≤ l) (h1 : l ≤ 1048576) : ∃ t, Evt (fun k => laws_szCoinS.f k x l) t ∧ t ≤ l ∧ (0 ≤ t → (Lm smCoin) x) := by
  have hn := o.1
  have hn' : x.length ≤ 9223372036854775807 := by simpa [maxLen] using hn
  by_cases c : decide (szL x.length l < 0) = true
  · refine ⟨-1, (Evt.t (f := fun _ => some (-1)) ?_ (Evt.self _)), by omega, fun h => by omega⟩
    have e : wrap64 (l - (x.length : Int)) = l - (x.length : Int) := by unfold wrap64; omega
    rw [e]
    by_cases c2 : l - (x.length : Int) < 0
    · exact decide_eq_true c2
    · unfold szL at c; rw [e, decide_eq_false c2] at c; simp at c; omega
  have c' : decide (szL x.length l < 0) = false := by simpa using c
  obtain ⟨h2, h3⟩ := szL_ok c' h0 h1 hn
  have e : wrap64 (l - (x.length : Int)) = l - (x.length : Int) := by unfold wrap64; omega
  obtain ⟨r, hr, hr2⟩ := Evt.szl (L := fun k left i => laws_szCoinS.l0 x k left i) (sm := smCoin) x hn' (fun i hi left a0 a1 => by
    obtain ⟨t, e1, e2, e3⟩ := szCoin_ev (gt x (i : Int)) (o.2 _ (gt_mem hi)) left a0 a1
    refine ⟨t, e2, e3, fun c => ?_, fun o c ho => ?_⟩
    · refine Evt.s ?_
      simp only [laws_szCoinS.l0_s]
      exact Evt.t (int_lt hi) (Evt.chk (idx_ok hi) (Evt.bind e1 (Evt.t (by simpa using c) (Evt.self _))))
    · refine Evt.s ?_
      simp only [laws_szCoinS.l0_s]
      exact Evt.t (int_lt hi) (Evt.chk (idx_ok hi) (Evt.bind e1 (Evt.f (by simpa using c) ho)))) (fun left => by
    refine Evt.s ?_
    simp only [laws_szCoinS.l0_s]
    exact Evt.f int_nlt (Evt.self _)) (l - (x.length : Int)) (by omega) (by omega)
  refine ⟨onw r id id, Evt.f (by rw [e]; simpa using h2) (Evt.thn (r' := id) (g' := id) (by rw [e]; exact hr) (fun _ => rfl) (fun y _ => Evt.self y)), ?_, ?_⟩
  · cases r with
    | inl r => have h5 : r = -1 := hr2; subst h5; show (-1 : Int) ≤ l; omega
    | inr t => have h5 : 0 ≤ t ∧ t ≤ l - (x.length : Int) ∧ _ := hr2; show t ≤ l; omega
  · intro h
    cases r with
    | inl r => have h5 : r = -1 := hr2; subst h5; simp [onw] at h
    | inr t => have h5 : 0 ≤ t ∧ t ≤ l - (x.length : Int) ∧ _ := hr2; exact ⟨by omega, h5.2.2⟩
theorem szRefS_ev (x : List Ref) (o : (Lok okRef) x) (l : Int) (h0 : 0 ≤ l) (h1 : l ≤ 1048576) : ∃ t, Evt (fun k => laws_szRefS.f k x l) t ∧ t ≤ l ∧ (0 ≤ t → (Lm smRef) x) := by
  have hn := o.1
  exact ⟨szL x.length l, Evt.if_ (Evt.self _) (Evt.self _), szL_le h0 h1 hn, fun h => ⟨by have := szL_ok (n := x.length) (l := l) (by simpa using h) h0 h1 hn; omega, by simp⟩⟩
theorem toRef_ev (x : Ref) (h : smRef x) : Evt (fun k => laws_toRef.f k x) x := Evt.self _
theorem toInt64S_ev (x : List Int) (h : (Lm tr) x) : Evt (fun k => laws_toInt64S.f k x) x := by
  have hn := h.1
  refine Evt.chk (by simp) (Evt.chk (by simp [leB]; omega) (Evt.bind (a := x) ?_ (Evt.self _)))
  have := Evt.copy (L := fun k acc i => laws_toInt64S.l0 x k acc i) x id (by omega) (fun acc i hl hi r hr => ?_) (fun acc => ?_) (List.replicate ((x.length : Int)).toNat 0) (by simp)
  · simpa using this
  · refine Evt.s ?_
    simp only [laws_toInt64S.l0_s]
    refine Evt.t (int_lt hi) (Evt.chk (idx_ok hi) (Evt.chk (idx_ok (hl ▸ hi)) ?_))
    simpa using hr
  · refine Evt.s ?_
    simp only [laws_toInt64S.l0_s]
    exact Evt.f int_nlt (Evt.self _)
theorem toRule_ev (x : Rule) (h : smRule x) : Evt (fun k => laws_toRule.f k x) x := Evt.bind (toInt64S_ev _ h.1) (Evt.self _)
theorem toOut_ev (x : Out) (h : smOut x) : Evt (fun k => laws_toOut.f k x) x := Evt.bind (toRule_ev _ h.2) (Evt.self _)
theorem toCoin_ev (x : Coin) (h : smCoin x) : Evt (fun k => laws_toCoin.f k x) x := Evt.bind (toRef_ev _ h.1) (Evt.bind (toOut_ev _ h.2.1) (Evt.self _))
theorem toCoinS_ev (x : List Coin) (h : (Lm smCoin) x) : Evt (fun k => laws_toCoinS.f k x) x := by
  have hn := h.1
  refine Evt.chk (by simp) (Evt.chk (by simp [leB]; omega) (Evt.bind (a := x) ?_ (Evt.self _)))
  have := Evt.copy (L := fun k acc i => laws_toCoinS.l0 x k acc i) x id (by omega) (fun acc i hl hi r hr => ?_) (fun acc => ?_) (List.replicate ((x.length : Int)).toNat (⟨(⟨0, 0⟩ : Ref), (⟨0, (⟨[], 0, 0⟩ : Rule)⟩ : Out), 0, false⟩ : Coin)) (by simp)
  · simpa using this
  · refine Evt.s ?_
    simp only [laws_toCoinS.l0_s]
    refine Evt.t (int_lt hi) (Evt.chk (idx_ok hi) (Evt.bind (toCoin_ev _ (h.2 _ (gt_mem hi))) (Evt.chk (idx_ok (hl ▸ hi)) ?_)))
    simpa using hr
  · refine Evt.s ?_
    simp only [laws_toCoinS.l0_s]
    exact Evt.f int_nlt (Evt.self _)
theorem toRefS_ev (x : List Ref) (h : (Lm smRef) x) : Evt (fun k => laws_toRefS.f k x) x := by
  have hn := h.1
  refine Evt.chk (by simp) (Evt.chk (by simp [leB]; omega) (Evt.bind (a := x) ?_ (Evt.self _)))
  have := Evt.copy (L := fun k acc i => laws_toRefS.l0 x k acc i) x id (by omega) (fun acc i hl hi r hr => ?_) (fun acc => ?_) (List.replicate ((x.length : Int)).toNat (⟨0, 0⟩ : Ref)) (by simp)
  · simpa using this
  · refine Evt.s ?_
    simp only [laws_toRefS.l0_s]
    refine Evt.t (int_lt hi) (Evt.chk (idx_ok hi) (Evt.bind (toRef_ev _ (h.2 _ (gt_mem hi))) (Evt.chk (idx_ok (hl ▸ hi)) ?_)))
    simpa using hr
  · refine Evt.s ?_
    simp only [laws_toRefS.l0_s]
    exact Evt.f int_nlt (Evt.self _)
def spec_l1In_v (x0 : Int) (x1 : Int) (x2 : Int) : Bool := ((decide (x1 ≤ x0)) && (decide (x0 ≤ x2)))
theorem spec_l1In_ev (x0 : Int) (x1 : Int) (x2 : Int)  : Evt (fun k => spec_l1In.f k x0 x1 x2) (spec_l1In_v x0 x1 x2) :=
  (Evt.self _)
def spec_l3Ref_v (x0 : Ref) : Bool := ((spec_l1In_v x0.fTx 1 60) && (bif (spec_l1In_v x0.fTx 1 60) then (spec_l1In_v x0.fAt 0 3) else default))
theorem spec_l3Ref_ev (x0 : Ref)  : Evt (fun k => spec_l3Ref.f k x0) (spec_l3Ref_v x0) :=
  (Evt.bind (spec_l1In_ev x0.fTx 1 60) (Evt.bind (Evt.ifh (fun _ => (spec_l1In_ev x0.fAt 0 3)) (fun _ => Evt.self _)) (Evt.self _)))
def spec_l2Height_v (x0 : Int) : Bool := (spec_l1In_v x0 0 999)
theorem spec_l2Height_ev (x0 : Int)  : Evt (fun k => spec_l2Height.f k x0) (spec_l2Height_v x0) :=
  (Evt.bind (spec_l1In_ev x0 0 999) (Evt.self _))
def spec_l1Key_v (x0 : Int) : Bool := (spec_l1In_v x0 1 999)
theorem spec_l1Key_ev (x0 : Int)  : Evt (fun k => spec_l1Key.f k x0) (spec_l1Key_v x0) :=
  (Evt.bind (spec_l1In_ev x0 1 999) (Evt.self _))
def spec_l2Fault_v (x0 : Rule) : Int := (bif !(spec_l1In_v (x0.fKeys.length : Int) 1 3) then 2 else (onO ((List.range' 0 (x0.fKeys.length - 0)).findSome? (fun (i0 : Nat) => (bif !(spec_l1Key_v (gt x0.fKeys (i0 : Int))) then (some 3) else none))) (fun r => r) (bif ((!(spec_l1In_v x0.fNeed 1 (x0.fKeys.length : Int))) || (!(bif (!(!(spec_l1In_v x0.fNeed 1 (x0.fKeys.length : Int)))) then (spec_l2Height_v x0.fAfter) else default))) then 3 else (onO ((List.range' 1 (x0.fKeys.length - 1)).findSome? (fun (i2 : Nat) => (bif (decide ((gt x0.fKeys (i2 : Int)) ≤ (gt x0.fKeys (wrap64 ((i2 : Int) - 1))))) then (some 1) else none))) (fun r => r) 0))))
theorem spec_l2Fault_ev (x0 : Rule) (h_x0 : smRule x0) : Evt (fun k => spec_l2Fault.f k x0) (spec_l2Fault_v x0) :=
  (Evt.bind (spec_l1In_ev (x0.fKeys.length : Int) 1 3) (Evt.ifh (fun hc5 => (Evt.self _)) (fun hc5 => (Evt.loop (r' := fun r => r) (Evt.srch (L := (fun k i => spec_l2Fault.l0 x0 k i)) 0 x0.fKeys.length (by have := h_x0.1; first | (have := this.1; omega) | omega) (fun (i0 : Nat) => (bif !(spec_l1Key_v (gt x0.fKeys (i0 : Int))) then (some 3) else none)) (fun i0 hs2 hi2 => by
  have hbn : x0.fKeys.length ≤ 9223372036854775807 := (by have := h_x0.1; first | (have := this.1; omega) | omega)
  simp only [spec_l2Fault.l0_s]
  exact Evt_t2 (int_lt hi2) (StE.chk (by first | exact idx_ok (by omega) | exact idx_ok (by have hq := len_eq (by assumption); omega) | exact idx_found (show (0 : Int) ≤ (i0 : Int) by simp_all) | exact cut_ok (by omega) | exact or_ok (idx_ok (by omega)) | (refine or1 (fun hz => pre_ok (by simp at hz; omega) (by omega) (by omega))) | exact pre_ok (by omega) (by omega) (by omega) | (simp_all [idxOk, cutOk, leB]; done) | (simp_all [idxOk, cutOk, leB]; omega) | (simp [idxOk, cutOk, leB] at *; omega) | (have hf0 := h_x0.1.1; simp only [leB, decide_eq_true_eq, List.length_append, List.length_cons, List.length_nil]; omega)) (StE.bind (spec_l1Key_ev (gt x0.fKeys (i0 : Int))) (StE.ifh (fun hc1 => (StE.ret _)) (fun hc1 => StE.next))))) (fun j hj => by
  simp only [spec_l2Fault.l0_s]
  exact Evt.f (ge_lt hj) (Evt.self _))) (fun _ => rfl) (Evt.bind (spec_l1In_ev x0.fNeed 1 (x0.fKeys.length : Int)) (Evt.bind (Evt.ifh (fun _ => (spec_l2Height_ev x0.fAfter)) (fun _ => Evt.self _)) (Evt.ifh (fun hc4 => (Evt.self _)) (fun hc4 => (Evt.loop (r' := fun r => r) (Evt.srch (L := (fun k i => spec_l2Fault.l1 x0 k i)) 1 x0.fKeys.length (by have := h_x0.1; first | (have := this.1; omega) | omega) (fun (i2 : Nat) => (bif (decide ((gt x0.fKeys (i2 : Int)) ≤ (gt x0.fKeys (wrap64 ((i2 : Int) - 1))))) then (some 1) else none)) (fun i2 hs4 hi4 => by
  have hbn : x0.fKeys.length ≤ 9223372036854775807 := (by have := h_x0.1; first | (have := this.1; omega) | omega)
  simp only [spec_l2Fault.l1_s]
  exact Evt_t2 (int_lt hi4) (StE.chk (by first | exact idx_ok (by omega) | exact idx_ok (by have hq := len_eq (by assumption); omega) | exact idx_found (show (0 : Int) ≤ (i2 : Int) by simp_all) | exact cut_ok (by omega) | exact or_ok (idx_ok (by omega)) | (refine or1 (fun hz => pre_ok (by simp at hz; omega) (by omega) (by omega))) | exact pre_ok (by omega) (by omega) (by omega) | (simp_all [idxOk, cutOk, leB]; done) | (simp_all [idxOk, cutOk, leB]; omega) | (simp [idxOk, cutOk, leB] at *; omega) | (have hf0 := h_x0.1.1; simp only [leB, decide_eq_true_eq, List.length_append, List.length_cons, List.length_nil]; omega)) (StE.chk (by first | exact idx_ok (by omega) | exact idx_ok (by have hq := len_eq (by assumption); omega) | exact idx_found (show (0 : Int) ≤ (wrap64 ((i2 : Int) - 1)) by simp_all) | exact cut_ok (by omega) | exact or_ok (idx_ok (by omega)) | (refine or1 (fun hz => pre_ok (by simp at hz; omega) (by omega) (by omega))) | exact pre_ok (by omega) (by omega) (by omega) | (simp_all [idxOk, cutOk, leB]; done) | (simp_all [idxOk, cutOk, leB]; omega) | (simp [idxOk, cutOk, leB] at *; omega) | (have hf0 := h_x0.1.1; simp only [leB, decide_eq_true_eq, List.length_append, List.length_cons, List.length_nil]; omega)) (StE.ifh (fun hc3 => (StE.ret _)) (fun hc3 => StE.next))))) (fun j hj => by
  simp only [spec_l2Fault.l1_s]
  exact Evt.f (ge_lt hj) (Evt.self _))) (fun _ => rfl) (Evt.self _))))))))))
def spec_l4Out_v (x0 : Out) : Int := (bif !(spec_l1In_v x0.fValue 1 1000000) then 3 else (spec_l2Fault_v x0.fRule))
theorem spec_l4Out_ev (x0 : Out) (h_x0 : smOut x0) : Evt (fun k => spec_l4Out.f k x0) (spec_l4Out_v x0) :=
  (Evt.bind (spec_l1In_ev x0.fValue 1 1000000) (Evt.ifh (fun hc0 => (Evt.self _)) (fun hc0 => (Evt.bind (spec_l2Fault_ev x0.fRule (h_x0.2)) (Evt.self _)))))
def spec_l4Ahead_v (x0 : Ref) (x1 : Ref) : Bool := (bif (x0.fTx != x1.fTx) then (decide (x0.fTx < x1.fTx)) else (decide (x0.fAt < x1.fAt)))
theorem spec_l4Ahead_ev (x0 : Ref) (x1 : Ref)  : Evt (fun k => spec_l4Ahead.f k x0 x1) (spec_l4Ahead_v x0 x1) :=
  (Evt.ifh (fun hc0 => (Evt.self _)) (fun hc0 => (Evt.self _)))
def spec_l4Fault_v (x0 : List Coin) : Int := (bif (decide (40 < (x0.length : Int))) then 2 else (onO ((List.range' 0 (x0.length - 0)).findSome? (fun (i0 : Nat) => (bif ((!(spec_l3Ref_v ((gt x0 (i0 : Int)).fRef))) || (!(bif (!(!(spec_l3Ref_v ((gt x0 (i0 : Int)).fRef)))) then (spec_l2Height_v ((gt x0 (i0 : Int)).fHeight)) else default))) then (some 3) else (bif ((spec_l4Out_v ((gt x0 (i0 : Int)).fOut)) != 0) then (some (spec_l4Out_v ((gt x0 (i0 : Int)).fOut))) else (bif ((decide (0 < (i0 : Int))) && (!(bif (decide (0 < (i0 : Int))) then (spec_l4Ahead_v ((gt x0 (wrap64 ((i0 : Int) - 1))).fRef) ((gt x0 (i0 : Int)).fRef)) else default))) then (some 1) else none))))) (fun r => r) 0))
theorem spec_l4Fault_ev (x0 : List Coin) (h_x0 : (Lm smCoin) x0) : Evt (fun k => spec_l4Fault.f k x0) (spec_l4Fault_v x0) :=
  (Evt.ifh (fun hc4 => (Evt.self _)) (fun hc4 => (Evt.loop (r' := fun r => r) (Evt.srch (L := (fun k i => spec_l4Fault.l0 x0 k i)) 0 x0.length (by have := h_x0; first | (have := this.1; omega) | omega) (fun (i0 : Nat) => (bif ((!(spec_l3Ref_v ((gt x0 (i0 : Int)).fRef))) || (!(bif (!(!(spec_l3Ref_v ((gt x0 (i0 : Int)).fRef)))) then (spec_l2Height_v ((gt x0 (i0 : Int)).fHeight)) else default))) then (some 3) else (bif ((spec_l4Out_v ((gt x0 (i0 : Int)).fOut)) != 0) then (some (spec_l4Out_v ((gt x0 (i0 : Int)).fOut))) else (bif ((decide (0 < (i0 : Int))) && (!(bif (decide (0 < (i0 : Int))) then (spec_l4Ahead_v ((gt x0 (wrap64 ((i0 : Int) - 1))).fRef) ((gt x0 (i0 : Int)).fRef)) else default))) then (some 1) else none)))) (fun i0 hs4 hi4 => by
  have hbn : x0.length ≤ 9223372036854775807 := (by have := h_x0; first | (have := this.1; omega) | omega)
  simp only [spec_l4Fault.l0_s]
  exact Evt_t2 (int_lt hi4) (StE.chk (by first | exact idx_ok (by omega) | exact idx_ok (by have hq := len_eq (by assumption); omega) | exact idx_found (show (0 : Int) ≤ (i0 : Int) by simp_all) | exact cut_ok (by omega) | exact or_ok (idx_ok (by omega)) | (refine or1 (fun hz => pre_ok (by simp at hz; omega) (by omega) (by omega))) | exact pre_ok (by omega) (by omega) (by omega) | (simp_all [idxOk, cutOk, leB]; done) | (simp_all [idxOk, cutOk, leB]; omega) | (simp [idxOk, cutOk, leB] at *; omega) | (have hf0 := h_x0.1; simp only [leB, decide_eq_true_eq, List.length_append, List.length_cons, List.length_nil]; omega)) (StE.bind (spec_l3Ref_ev ((gt x0 (i0 : Int)).fRef)) (StE.chk (by first | exact idx_ok (by omega) | exact idx_ok (by have hq := len_eq (by assumption); omega) | exact idx_found (by simp_all) | exact cut_ok (by omega) | exact or_ok (idx_ok (by omega)) | (refine or1 (fun hz => pre_ok (by simp at hz; omega) (by omega) (by omega))) | exact pre_ok (by omega) (by omega) (by omega) | (simp_all [idxOk, cutOk, leB]; done) | (simp_all [idxOk, cutOk, leB]; omega) | (simp [idxOk, cutOk, leB] at *; omega) | (have hf0 := h_x0.1; simp only [leB, decide_eq_true_eq, List.length_append, List.length_cons, List.length_nil]; omega)) (StE.bind (Evt.ifh (fun _ => (spec_l2Height_ev ((gt x0 (i0 : Int)).fHeight))) (fun _ => Evt.self _)) (StE.ifh (fun hc3 => (StE.ret _)) (fun hc3 => (StE.chk (by first | exact idx_ok (by omega) | exact idx_ok (by have hq := len_eq (by assumption); omega) | exact idx_found (show (0 : Int) ≤ (i0 : Int) by simp_all) | exact cut_ok (by omega) | exact or_ok (idx_ok (by omega)) | (refine or1 (fun hz => pre_ok (by simp at hz; omega) (by omega) (by omega))) | exact pre_ok (by omega) (by omega) (by omega) | (simp_all [idxOk, cutOk, leB]; done) | (simp_all [idxOk, cutOk, leB]; omega) | (simp [idxOk, cutOk, leB] at *; omega) | (have hf0 := h_x0.1; simp only [leB, decide_eq_true_eq, List.length_append, List.length_cons, List.length_nil]; omega)) (StE.bind (spec_l4Out_ev ((gt x0 (i0 : Int)).fOut) (((h_x0).2 _ (gt_mem (by first | omega | (have hq := len_eq (by assumption); omega) | (have hf0 := h_x0.1; simp only [leB, decide_eq_true_eq, List.length_append, List.length_cons, List.length_nil]; omega)))).2.1)) (StE.ifh (fun hc2 => (StE.ret _)) (fun hc2 => (StE.chk (by first | exact idx_ok (by omega) | exact idx_ok (by have hq := len_eq (by assumption); omega) | exact idx_found (by simp_all) | exact cut_ok (by omega) | exact or_ok (idx_ok (by omega)) | (refine or1 (fun hz => pre_ok (by simp at hz; omega) (by omega) (by omega))) | exact pre_ok (by omega) (by omega) (by omega) | (simp_all [idxOk, cutOk, leB]; done) | (simp_all [idxOk, cutOk, leB]; omega) | (simp [idxOk, cutOk, leB] at *; omega) | (have hf0 := h_x0.1; simp only [leB, decide_eq_true_eq, List.length_append, List.length_cons, List.length_nil]; omega)) (StE.chk (by first | exact idx_ok (by omega) | exact idx_ok (by have hq := len_eq (by assumption); omega) | exact idx_found (by simp_all) | exact cut_ok (by omega) | exact or_ok (idx_ok (by omega)) | (refine or1 (fun hz => pre_ok (by simp at hz; omega) (by omega) (by omega))) | exact pre_ok (by omega) (by omega) (by omega) | (simp_all [idxOk, cutOk, leB]; done) | (simp_all [idxOk, cutOk, leB]; omega) | (simp [idxOk, cutOk, leB] at *; omega) | (have hf0 := h_x0.1; simp only [leB, decide_eq_true_eq, List.length_append, List.length_cons, List.length_nil]; omega)) (StE.bind (Evt.ifh (fun _ => (spec_l4Ahead_ev ((gt x0 (wrap64 ((i0 : Int) - 1))).fRef) ((gt x0 (i0 : Int)).fRef))) (fun _ => Evt.self _)) (StE.ifh (fun hc1 => (StE.ret _)) (fun hc1 => StE.next)))))))))))))))) (fun j hj => by
  simp only [spec_l4Fault.l0_s]
  exact Evt.f (ge_lt hj) (Evt.self _))) (fun _ => rfl) (Evt.self _))))
def spec_l2Copy_v (x0 : Rule) : Rule := (⟨([] : List Int) ++ x0.fKeys, x0.fNeed, x0.fAfter⟩ : Rule)
theorem spec_l2Copy_ev (x0 : Rule) (h_x0 : smRule x0) : Evt (fun k => spec_l2Copy.f k x0) (spec_l2Copy_v x0) :=
  (Evt.chk (by first | exact idx_ok (by omega) | exact idx_ok (by have hq := len_eq (by assumption); omega) | exact idx_found (by simp_all) | exact cut_ok (by omega) | exact or_ok (idx_ok (by omega)) | (refine or1 (fun hz => pre_ok (by simp at hz; omega) (by omega) (by omega))) | exact pre_ok (by omega) (by omega) (by omega) | (simp_all [idxOk, cutOk, leB]; done) | (simp_all [idxOk, cutOk, leB]; omega) | (simp [idxOk, cutOk, leB] at *; omega) | (have hf0 := h_x0.1.1; simp only [leB, decide_eq_true_eq, List.length_append, List.length_cons, List.length_nil]; omega)) (Evt.self _))
def spec_l4Copy_v (x0 : List Coin) : (List Coin) := ((List.range' 0 (x0.length - 0)).foldl (fun ac1 (i0 : Nat) => ((ac1 ++ ([(⟨(gt x0 (i0 : Int)).fRef, (⟨(gt x0 (i0 : Int)).fOut.fValue, (spec_l2Copy_v ((gt x0 (i0 : Int)).fOut.fRule))⟩ : Out), (gt x0 (i0 : Int)).fHeight, (gt x0 (i0 : Int)).fMined⟩ : Coin)] : List Coin)))) ([] : List Coin))
theorem spec_l4Copy_ev (x0 : List Coin) (h_x0 : (Lm smCoin) x0) : Evt (fun k => spec_l4Copy.f k x0) (spec_l4Copy_v x0) :=
  (Evt.bind (Evt.gatherL (L := (fun k ac i => spec_l4Copy.l0 x0 k ac i)) x0.length (by have := h_x0; first | (have := this.1; omega) | omega) (fun ac1 (i0 : Nat) => ((ac1 ++ ([(⟨(gt x0 (i0 : Int)).fRef, (⟨(gt x0 (i0 : Int)).fOut.fValue, (spec_l2Copy_v ((gt x0 (i0 : Int)).fOut.fRule))⟩ : Out), (gt x0 (i0 : Int)).fHeight, (gt x0 (i0 : Int)).fMined⟩ : Coin)] : List Coin)))) (fun i0 hi1 ac1 hgl => (by first | (simp only [List.length_append, List.length_cons, List.length_nil]; omega) | omega)) (fun i0 hi1 ac1 hgl o hg => by
  have hbn : x0.length ≤ 1048576 := (by have := h_x0; first | (have := this.1; omega) | omega)
  simp only [spec_l4Copy.l0_s]
  exact Evt.t (int_lt hi1) (Evt.chk (by first | (simp only [leB, decide_eq_true_eq, List.length_append, List.length_cons, List.length_nil]; omega) | exact idx_ok (by omega) | exact idx_ok (by have hq := len_eq (by assumption); omega) | exact idx_found (by simp_all) | exact cut_ok (by omega) | exact or_ok (idx_ok (by omega)) | (refine or1 (fun hz => pre_ok (by simp at hz; omega) (by omega) (by omega))) | exact pre_ok (by omega) (by omega) (by omega) | (simp_all [idxOk, cutOk, leB]; done) | (simp_all [idxOk, cutOk, leB]; omega) | (simp [idxOk, cutOk, leB] at *; omega) | (have hf0 := h_x0.1; simp only [leB, decide_eq_true_eq, List.length_append, List.length_cons, List.length_nil]; omega)) (Evt.bind (spec_l2Copy_ev ((gt x0 (i0 : Int)).fOut.fRule) ((((h_x0).2 _ (gt_mem (by first | omega | (have hq := len_eq (by assumption); omega) | (have hf0 := h_x0.1; simp only [leB, decide_eq_true_eq, List.length_append, List.length_cons, List.length_nil]; omega)))).2.1).2)) (Evt.chk (by first | (simp only [leB, decide_eq_true_eq, List.length_append, List.length_cons, List.length_nil]; omega) | exact idx_ok (by omega) | exact idx_ok (by have hq := len_eq (by assumption); omega) | exact idx_found (by simp_all) | exact cut_ok (by omega) | exact or_ok (idx_ok (by omega)) | (refine or1 (fun hz => pre_ok (by simp at hz; omega) (by omega) (by omega))) | exact pre_ok (by omega) (by omega) (by omega) | (simp_all [idxOk, cutOk, leB]; done) | (simp_all [idxOk, cutOk, leB]; omega) | (simp [idxOk, cutOk, leB] at *; omega) | (have hf0 := h_x0.1; simp only [leB, decide_eq_true_eq, List.length_append, List.length_cons, List.length_nil]; omega)) hg)))) (fun j ac hj => by
  simp only [spec_l4Copy.l0_s]
  exact Evt.f (ge_lt hj) (Evt.self _))) (Evt.self _))
/-! ### A loop over a row, as a fold over it -/
theorem range_foldl {α β : Type} [Inhabited α] (xs : List α) (f : β → α → β) (a : β) : (List.range' 0 (xs.length - 0)).foldl (fun ac (i : Nat) => f ac (gt xs (i : Int))) a = xs.foldl f a := by
  have key : ∀ d i a, i + d = xs.length → (List.range' i d).foldl (fun ac (i : Nat) => f ac (gt xs (i : Int))) a = (xs.drop i).foldl f a := by
    intro d
    induction d with
    | zero => intro i a h; rw [List.drop_eq_nil_of_le (by omega)]; rfl
    | succ d ih =>
      intro i a h
      have hi : i < xs.length := by omega
      rw [List.range'_succ, List.foldl_cons, ih (i + 1) _ (by omega), List.drop_eq_getElem_cons hi, List.foldl_cons, gt_eq (by simpa using hi)]
      simp
  simpa using key xs.length 0 a (by omega)
theorem fold_if {α β : Type} (c : α → Bool) (g : β → α → β) : ∀ (xs : List α) (ys : List α) (b : β), (xs.foldl (fun ac x => bif c x then ac ++ [x] else ac) ys).foldl g b = xs.foldl (fun n x => bif c x then g n x else n) (ys.foldl g b)
  | [], ys, b => rfl
  | x :: xs, ys, b => by
    rw [List.foldl_cons, List.foldl_cons, fold_if c g xs]
    cases c x
    · rfl
    · rw [cond_true, cond_true, List.foldl_append]; rfl
theorem fold_map {α β : Type} (g : α → β) : ∀ (xs : List α) (ys : List β), xs.foldl (fun ac x => ac ++ [g x]) ys = ys ++ xs.map g
  | [], ys => by simp
  | x :: xs, ys => by rw [List.foldl_cons, fold_map g xs]; simp
theorem l2Copy_id (r : Rule) : spec_l2Copy_v r = r := by simp [spec_l2Copy_v]
theorem l4Copy_id (x0 : List Coin) : spec_l4Copy_v x0 = x0 := by
  have h := range_foldl x0 (fun ac (x : Coin) => ac ++ [(⟨x.fRef, ⟨x.fOut.fValue, spec_l2Copy_v x.fOut.fRule⟩, x.fHeight, x.fMined⟩ : Coin)]) []
  refine Eq.trans h ?_
  rw [fold_map]
  simp only [l2Copy_id]
  simp
def spec_l4At_v (x0 : List Coin) (x1 : Ref) : Int := (onO ((List.range' 0 (x0.length - 0)).findSome? (fun (i0 : Nat) => (bif ((((gt x0 (i0 : Int)).fRef.fTx) == x1.fTx) && (((gt x0 (i0 : Int)).fRef.fAt) == x1.fAt)) then (some (i0 : Int)) else none))) (fun r => r) (-1))
theorem spec_l4At_ev (x0 : List Coin) (x1 : Ref) (h_x0 : (Lm smCoin) x0) : Evt (fun k => spec_l4At.f k x0 x1) (spec_l4At_v x0 x1) :=
  (Evt.loop (r' := fun r => r) (Evt.srch (L := (fun k i => spec_l4At.l0 x0 x1 k i)) 0 x0.length (by have := h_x0; first | (have := this.1; omega) | omega) (fun (i0 : Nat) => (bif ((((gt x0 (i0 : Int)).fRef.fTx) == x1.fTx) && (((gt x0 (i0 : Int)).fRef.fAt) == x1.fAt)) then (some (i0 : Int)) else none)) (fun i0 hs2 hi2 => by
  have hbn : x0.length ≤ 9223372036854775807 := (by have := h_x0; first | (have := this.1; omega) | omega)
  simp only [spec_l4At.l0_s]
  exact Evt_t2 (int_lt hi2) (StE.chk (by first | exact idx_ok (by omega) | exact idx_ok (by have hq := len_eq (by assumption); omega) | exact idx_found (show (0 : Int) ≤ (i0 : Int) by simp_all) | exact cut_ok (by omega) | exact or_ok (idx_ok (by omega)) | (refine or1 (fun hz => pre_ok (by simp at hz; omega) (by omega) (by omega))) | exact pre_ok (by omega) (by omega) (by omega) | (simp_all [idxOk, cutOk, leB]; done) | (simp_all [idxOk, cutOk, leB]; omega) | (simp [idxOk, cutOk, leB] at *; omega) | (have hf0 := h_x0.1; simp only [leB, decide_eq_true_eq, List.length_append, List.length_cons, List.length_nil]; omega)) (StE.ifh (fun hc1 => (StE.ret _)) (fun hc1 => StE.next)))) (fun j hj => by
  simp only [spec_l4At.l0_s]
  exact Evt.f (ge_lt hj) (Evt.self _))) (fun _ => rfl) (Evt.self _))
def takeG1 (out : List Coin) (r : Ref) : Option (List Coin) := bif decide (spec_l4At_v out r < 0) then none else some (out.take (spec_l4At_v out r).toNat ++ out.drop (wrap64 (spec_l4At_v out r + 1)).toNat)
theorem l4At_in (out : List Coin) (r : Ref) (h : decide (spec_l4At_v out r < 0) = false) : idxOk (spec_l4At_v out r) out.length = true := by
  have h0 : (0 : Int) ≤ spec_l4At_v out r := by simpa using h
  exact idx_found (show (0 : Int) ≤ spec_l4At_v out r from h0)
theorem takeG1_pres (s : List Coin) (r : Ref) (t : List Coin) (hs : Lm smCoin s) (h : takeG1 s r = some t) : t.Sublist s := by
  unfold takeG1 at h
  cases hc : decide (spec_l4At_v s r < 0)
  · rw [hc] at h
    have h2 : s.take (spec_l4At_v s r).toNat ++ s.drop (wrap64 (spec_l4At_v s r + 1)).toNat = t := Option.some.inj h
    subst h2
    have h3 := l4At_in s r hc
    exact cut_sub s (cut_hi (cut_self h3 hs.1))
  · rw [hc] at h; cases h
def spec_l4Take_v (x0 : List Coin) (x1 : List Ref) : (List Coin) × Bool := match stepAll takeG1 (spec_l4Copy_v x0) x1 with
  | some t => (t, true)
  | none => ([], false)
theorem spec_l4Take_ev (x0 : List Coin) (x1 : List Ref) (h_x0 : Lm smCoin x0) (h_x1 : Lm smRef x1) : Evt (fun k => spec_l4Take.f k x0 x1) (spec_l4Take_v x0 x1) := by
  have hn := h_x1.1
  refine Evt.bind (spec_l4Copy_ev x0 h_x0) (Evt.bind (Evt.steps (L := fun k s i => spec_l4Take.l0 x1 k s i) x1 (by omega) (Lm smCoin) takeG1 (([] : List Coin), false) (fun i hi s hs o hsome hnone => ?_) (fun s r t hs h => Lm_sub hs (takeG1_pres s r t hs h)) (fun s => ?_) (spec_l4Copy_v x0) (by rw [l4Copy_id]; exact h_x0)) ?_)
  · simp only [spec_l4Take.l0_s]
    refine Evt.t (int_lt hi) (Evt.chk (idx_ok hi) (Evt.bind (spec_l4At_ev s _ hs) (Evt.cases (fun hc => ?_) (fun hc => ?_))))
    · exact Evt.ret (hnone (by unfold takeG1; rw [hc]; rfl)).symm
    · have h3 := l4At_in s _ hc
      have h4 := cut_next h3 hs.1
      have h5 := cut_self h3 hs.1
      have h6 := idx_lo h3
      have h7 := idx_hi h3
      have h8 := cut_hi h5
      have h9 := cut_hi h4
      have hl := hs.1
      refine Evt.chk ?_ (Evt.chk h4 (Evt.chk ?_ (Evt.chk ?_ (Evt.chk (decide_eq_true h8) (hsome _ (by unfold takeG1; rw [hc]; rfl))))))
      · unfold cutOk; simp; omega
      · exact decide_eq_true (by omega)
      · exact decide_eq_true (by omega)
  · simp only [spec_l4Take.l0_s]
    exact Evt.f int_nlt (Evt.self _)
  · unfold spec_l4Take_v
    cases stepAll takeG1 (spec_l4Copy_v x0) x1 with
    | some t => exact Evt.self _
    | none => exact Evt.self _
def spec_TakeCoins_v (x0 : List Coin) (x1 : List Ref) : CoinsResult := (bif ((spec_l4Fault_v x0) != 0) then (⟨(spec_l4Fault_v x0), ([] : List Coin)⟩ : CoinsResult) else (bif (decide (4 < (x1.length : Int))) then (⟨2, ([] : List Coin)⟩ : CoinsResult) else (bif !(spec_l4Take_v x0 x1).2 then (⟨4, ([] : List Coin)⟩ : CoinsResult) else (⟨0, (spec_l4Take_v x0 x1).1⟩ : CoinsResult))))
theorem spec_TakeCoins_ev (x0 : List Coin) (x1 : List Ref) (h_x0 : (Lm smCoin) x0) (h_x1 : (Lm smRef) x1) : Evt (fun k => spec_TakeCoins.f k x0 x1) (spec_TakeCoins_v x0 x1) :=
  (Evt.bind (spec_l4Fault_ev x0 (h_x0)) (Evt.ifh (fun hc2 => (Evt.self _)) (fun hc2 => (Evt.ifh (fun hc1 => (Evt.self _)) (fun hc1 => (Evt.bind (spec_l4Take_ev x0 x1 (h_x0) (h_x1)) (Evt.ifh (fun hc0 => (Evt.self _)) (fun hc0 => (Evt.self _)))))))))
def impl_within_v (x0 : Int) (x1 : Int) (x2 : Int) : Bool := ((decide (x1 ≤ x0)) && (decide (x0 ≤ x2)))
theorem impl_within_ev (x0 : Int) (x1 : Int) (x2 : Int)  : Evt (fun k => impl_within.f k x0 x1 x2) (impl_within_v x0 x1 x2) :=
  (Evt.self _)
def impl_isId_v (x0 : Int) : Bool := (impl_within_v x0 1 60)
theorem impl_isId_ev (x0 : Int)  : Evt (fun k => impl_isId.f k x0) (impl_isId_v x0) :=
  (Evt.bind (impl_within_ev x0 1 60) (Evt.self _))
def impl_isRef_v (x0 : Ref) : Bool := ((impl_isId_v x0.fTx) && (bif (impl_isId_v x0.fTx) then (impl_within_v x0.fAt 0 3) else default))
theorem impl_isRef_ev (x0 : Ref)  : Evt (fun k => impl_isRef.f k x0) (impl_isRef_v x0) :=
  (Evt.bind (impl_isId_ev x0.fTx) (Evt.bind (Evt.ifh (fun _ => (impl_within_ev x0.fAt 0 3)) (fun _ => Evt.self _)) (Evt.self _)))
def impl_isHeight_v (x0 : Int) : Bool := (impl_within_v x0 0 999)
theorem impl_isHeight_ev (x0 : Int)  : Evt (fun k => impl_isHeight.f k x0) (impl_isHeight_v x0) :=
  (Evt.bind (impl_within_ev x0 0 999) (Evt.self _))
def impl_isKey_v (x0 : Int) : Bool := (impl_within_v x0 1 999)
theorem impl_isKey_ev (x0 : Int)  : Evt (fun k => impl_isKey.f k x0) (impl_isKey_v x0) :=
  (Evt.bind (impl_within_ev x0 1 999) (Evt.self _))
def impl_areKeys_1_v (x0 : Int) : Bool := (!(impl_isKey_v x0))
theorem impl_areKeys_1_ev (x0 : Int)  : Evt (fun k => impl_areKeys_1.f k x0) (impl_areKeys_1_v x0) :=
  (Evt.bind (impl_isKey_ev x0) (Evt.self _))
def slices_IndexFunc_int64_v (x0 : List Int) : Int := (onO ((List.range' 0 (x0.length - 0)).findSome? (fun (i0 : Nat) => (bif (impl_areKeys_1_v (gt x0 (i0 : Int))) then (some (i0 : Int)) else none))) (fun r => r) (-1))
theorem slices_IndexFunc_int64_ev (x0 : List Int) (h_x0 : (Lm tr) x0) : Evt (fun k => slices_IndexFunc_int64.f k x0) (slices_IndexFunc_int64_v x0) :=
  (Evt.loop (r' := fun r => r) (Evt.srch (L := (fun k i => slices_IndexFunc_int64.l0 x0 k i)) 0 x0.length (by have := h_x0; first | (have := this.1; omega) | omega) (fun (i0 : Nat) => (bif (impl_areKeys_1_v (gt x0 (i0 : Int))) then (some (i0 : Int)) else none)) (fun i0 hs2 hi2 => by
  have hbn : x0.length ≤ 9223372036854775807 := (by have := h_x0; first | (have := this.1; omega) | omega)
  simp only [slices_IndexFunc_int64.l0_s]
  exact Evt_t2 (int_lt hi2) (StE.chk (by first | exact idx_ok (by omega) | exact idx_ok (by have hq := len_eq (by assumption); omega) | exact idx_found (show (0 : Int) ≤ (i0 : Int) by simp_all) | exact cut_ok (by omega) | exact or_ok (idx_ok (by omega)) | (refine or1 (fun hz => pre_ok (by simp at hz; omega) (by omega) (by omega))) | exact pre_ok (by omega) (by omega) (by omega) | (simp_all [idxOk, cutOk, leB]; done) | (simp_all [idxOk, cutOk, leB]; omega) | (simp [idxOk, cutOk, leB] at *; omega) | (have hf0 := h_x0.1; simp only [leB, decide_eq_true_eq, List.length_append, List.length_cons, List.length_nil]; omega)) (StE.bind (impl_areKeys_1_ev (gt x0 (i0 : Int))) (StE.ifh (fun hc1 => (StE.ret _)) (fun hc1 => StE.next))))) (fun j hj => by
  simp only [slices_IndexFunc_int64.l0_s]
  exact Evt.f (ge_lt hj) (Evt.self _))) (fun _ => rfl) (Evt.self _))
def slices_ContainsFunc_int64_v (x0 : List Int) : Bool := (decide (0 ≤ (slices_IndexFunc_int64_v x0)))
theorem slices_ContainsFunc_int64_ev (x0 : List Int) (h_x0 : (Lm tr) x0) : Evt (fun k => slices_ContainsFunc_int64.f k x0) (slices_ContainsFunc_int64_v x0) :=
  (Evt.bind (slices_IndexFunc_int64_ev x0 (h_x0)) (Evt.self _))
theorem slices_ContainsFunc_int64_any (x0 : List Int) : slices_ContainsFunc_int64_v x0 = (List.range' 0 (x0.length - 0)).any (fun (i0 : Nat) => (impl_areKeys_1_v (gt x0 (i0 : Int)))) := idx_any _ _
def impl_areKeys_v (x0 : List Int) : Bool := (!(slices_ContainsFunc_int64_v x0))
theorem impl_areKeys_ev (x0 : List Int) (h_x0 : (Lm tr) x0) : Evt (fun k => impl_areKeys.f k x0) (impl_areKeys_v x0) :=
  (Evt.bind (slices_ContainsFunc_int64_ev x0 (h_x0)) (Evt.self _))
def impl_isRising_v (x0 : List Int) : Bool := (onO ((List.range' 1 (x0.length - 1)).findSome? (fun (i0 : Nat) => (bif (decide ((gt x0 (i0 : Int)) ≤ (gt x0 (wrap64 ((i0 : Int) - 1))))) then (some false) else none))) (fun r => r) true)
theorem impl_isRising_ev (x0 : List Int) (h_x0 : (Lm tr) x0) : Evt (fun k => impl_isRising.f k x0) (impl_isRising_v x0) :=
  (Evt.loop (r' := fun r => r) (Evt.srch (L := (fun k i => impl_isRising.l0 x0 k i)) 1 x0.length (by have := h_x0; first | (have := this.1; omega) | omega) (fun (i0 : Nat) => (bif (decide ((gt x0 (i0 : Int)) ≤ (gt x0 (wrap64 ((i0 : Int) - 1))))) then (some false) else none)) (fun i0 hs2 hi2 => by
  have hbn : x0.length ≤ 9223372036854775807 := (by have := h_x0; first | (have := this.1; omega) | omega)
  simp only [impl_isRising.l0_s]
  exact Evt_t2 (int_lt hi2) (StE.chk (by first | exact idx_ok (by omega) | exact idx_ok (by have hq := len_eq (by assumption); omega) | exact idx_found (show (0 : Int) ≤ (i0 : Int) by simp_all) | exact cut_ok (by omega) | exact or_ok (idx_ok (by omega)) | (refine or1 (fun hz => pre_ok (by simp at hz; omega) (by omega) (by omega))) | exact pre_ok (by omega) (by omega) (by omega) | (simp_all [idxOk, cutOk, leB]; done) | (simp_all [idxOk, cutOk, leB]; omega) | (simp [idxOk, cutOk, leB] at *; omega) | (have hf0 := h_x0.1; simp only [leB, decide_eq_true_eq, List.length_append, List.length_cons, List.length_nil]; omega)) (StE.chk (by first | exact idx_ok (by omega) | exact idx_ok (by have hq := len_eq (by assumption); omega) | exact idx_found (show (0 : Int) ≤ (wrap64 ((i0 : Int) - 1)) by simp_all) | exact cut_ok (by omega) | exact or_ok (idx_ok (by omega)) | (refine or1 (fun hz => pre_ok (by simp at hz; omega) (by omega) (by omega))) | exact pre_ok (by omega) (by omega) (by omega) | (simp_all [idxOk, cutOk, leB]; done) | (simp_all [idxOk, cutOk, leB]; omega) | (simp [idxOk, cutOk, leB] at *; omega) | (have hf0 := h_x0.1; simp only [leB, decide_eq_true_eq, List.length_append, List.length_cons, List.length_nil]; omega)) (StE.ifh (fun hc1 => (StE.ret _)) (fun hc1 => StE.next))))) (fun j hj => by
  simp only [impl_isRising.l0_s]
  exact Evt.f (ge_lt hj) (Evt.self _))) (fun _ => rfl) (Evt.self _))
def impl_RuleFault_v (x0 : Rule) : Int := (bif !(impl_within_v (x0.fKeys.length : Int) 1 3) then 2 else (bif (((!(impl_areKeys_v x0.fKeys)) || (!(bif (!(!(impl_areKeys_v x0.fKeys))) then (impl_within_v x0.fNeed 1 (x0.fKeys.length : Int)) else default))) || (!(bif (!((!(impl_areKeys_v x0.fKeys)) || (!(bif (!(!(impl_areKeys_v x0.fKeys))) then (impl_within_v x0.fNeed 1 (x0.fKeys.length : Int)) else default)))) then (impl_isHeight_v x0.fAfter) else default))) then 3 else (bif !(impl_isRising_v x0.fKeys) then 1 else 0)))
theorem impl_RuleFault_ev (x0 : Rule) (h_x0 : smRule x0) : Evt (fun k => impl_RuleFault.f k x0) (impl_RuleFault_v x0) :=
  (Evt.bind (impl_within_ev (x0.fKeys.length : Int) 1 3) (Evt.ifh (fun hc2 => (Evt.self _)) (fun hc2 => (Evt.bind (impl_areKeys_ev x0.fKeys (h_x0.1)) (Evt.bind (Evt.ifh (fun _ => (impl_within_ev x0.fNeed 1 (x0.fKeys.length : Int))) (fun _ => Evt.self _)) (Evt.bind (Evt.ifh (fun _ => (impl_isHeight_ev x0.fAfter)) (fun _ => Evt.self _)) (Evt.ifh (fun hc1 => (Evt.self _)) (fun hc1 => (Evt.bind (impl_isRising_ev x0.fKeys (h_x0.1)) (Evt.ifh (fun hc0 => (Evt.self _)) (fun hc0 => (Evt.self _))))))))))))
def cmp_isNaN_int64_v (x0 : Int) : Bool := (x0 != x0)
theorem cmp_isNaN_int64_ev (x0 : Int)  : Evt (fun k => cmp_isNaN_int64.f k x0) (cmp_isNaN_int64_v x0) :=
  (Evt.self _)
def cmp_Compare_int64_v (x0 : Int) (x1 : Int) : Int := (bif (cmp_isNaN_int64_v x0) then (bif (cmp_isNaN_int64_v x1) then 0 else (-1)) else (bif (cmp_isNaN_int64_v x1) then 1 else (bif (decide (x0 < x1)) then (-1) else (bif (decide (x1 < x0)) then 1 else 0))))
theorem cmp_Compare_int64_ev (x0 : Int) (x1 : Int)  : Evt (fun k => cmp_Compare_int64.f k x0 x1) (cmp_Compare_int64_v x0 x1) :=
  (Evt.bind (cmp_isNaN_int64_ev x0) (Evt.bind (cmp_isNaN_int64_ev x1) (Evt.ifh (fun hc4 => (Evt.ifh (fun hc0 => (Evt.self _)) (fun hc0 => (Evt.self _)))) (fun hc4 => (Evt.ifh (fun hc3 => (Evt.self _)) (fun hc3 => (Evt.ifh (fun hc2 => (Evt.self _)) (fun hc2 => (Evt.ifh (fun hc1 => (Evt.self _)) (fun hc1 => (Evt.self _)))))))))))
def cmp_Or_int_v (x0 : List Int) : Int := (onO ((List.range' 0 (x0.length - 0)).findSome? (fun (i0 : Nat) => (bif ((gt x0 (i0 : Int)) != 0) then (some (gt x0 (i0 : Int))) else none))) (fun r => r) 0)
theorem cmp_Or_int_ev (x0 : List Int) (h_x0 : (Lm tr) x0) : Evt (fun k => cmp_Or_int.f k x0) (cmp_Or_int_v x0) :=
  (Evt.loop (r' := fun r => r) (Evt.srch (L := (fun k i => cmp_Or_int.l0 x0 k i)) 0 x0.length (by have := h_x0; first | (have := this.1; omega) | omega) (fun (i0 : Nat) => (bif ((gt x0 (i0 : Int)) != 0) then (some (gt x0 (i0 : Int))) else none)) (fun i0 hs2 hi2 => by
  have hbn : x0.length ≤ 9223372036854775807 := (by have := h_x0; first | (have := this.1; omega) | omega)
  simp only [cmp_Or_int.l0_s]
  exact Evt_t2 (int_lt hi2) (StE.chk (by first | exact idx_ok (by omega) | exact idx_ok (by have hq := len_eq (by assumption); omega) | exact idx_found (show (0 : Int) ≤ (i0 : Int) by simp_all) | exact cut_ok (by omega) | exact or_ok (idx_ok (by omega)) | (refine or1 (fun hz => pre_ok (by simp at hz; omega) (by omega) (by omega))) | exact pre_ok (by omega) (by omega) (by omega) | (simp_all [idxOk, cutOk, leB]; done) | (simp_all [idxOk, cutOk, leB]; omega) | (simp [idxOk, cutOk, leB] at *; omega) | (have hf0 := h_x0.1; simp only [leB, decide_eq_true_eq, List.length_append, List.length_cons, List.length_nil]; omega)) (StE.ifh (fun hc1 => (StE.ret _)) (fun hc1 => StE.next)))) (fun j hj => by
  simp only [cmp_Or_int.l0_s]
  exact Evt.f (ge_lt hj) (Evt.self _))) (fun _ => rfl) (Evt.self _))
def impl_compareRefs_v (x0 : Ref) (x1 : Ref) : Int := (cmp_Or_int_v ([(cmp_Compare_int64_v x0.fTx x1.fTx), (cmp_Compare_int64_v x0.fAt x1.fAt)] : List Int))
theorem impl_compareRefs_ev (x0 : Ref) (x1 : Ref)  : Evt (fun k => impl_compareRefs.f k x0 x1) (impl_compareRefs_v x0 x1) :=
  (Evt.bind (cmp_Compare_int64_ev x0.fTx x1.fTx) (Evt.bind (cmp_Compare_int64_ev x0.fAt x1.fAt) (Evt.bind (cmp_Or_int_ev ([(cmp_Compare_int64_v x0.fTx x1.fTx), (cmp_Compare_int64_v x0.fAt x1.fAt)] : List Int) ((⟨by simp, fun _ _ => trivial⟩ : Lm tr ([(cmp_Compare_int64_v x0.fTx x1.fTx), (cmp_Compare_int64_v x0.fAt x1.fAt)] : List Int)))) (Evt.self _))))
def impl_CoinsFault_v (x0 : List Coin) : Int := (bif (decide (40 < (x0.length : Int))) then 2 else (onO ((List.range' 0 (x0.length - 0)).findSome? (fun (i0 : Nat) => (bif (((!(impl_isRef_v ((gt x0 (i0 : Int)).fRef))) || (!(bif (!(!(impl_isRef_v ((gt x0 (i0 : Int)).fRef)))) then (impl_isHeight_v ((gt x0 (i0 : Int)).fHeight)) else default))) || (!(bif (!((!(impl_isRef_v ((gt x0 (i0 : Int)).fRef))) || (!(bif (!(!(impl_isRef_v ((gt x0 (i0 : Int)).fRef)))) then (impl_isHeight_v ((gt x0 (i0 : Int)).fHeight)) else default)))) then (impl_within_v ((gt x0 (i0 : Int)).fOut.fValue) 1 1000000) else default))) then (some 3) else (bif ((impl_RuleFault_v ((gt x0 (i0 : Int)).fOut.fRule)) != 0) then (some (impl_RuleFault_v ((gt x0 (i0 : Int)).fOut.fRule))) else (bif ((decide (0 < (i0 : Int))) && (decide (0 ≤ (bif (decide (0 < (i0 : Int))) then (impl_compareRefs_v ((gt x0 (wrap64 ((i0 : Int) - 1))).fRef) ((gt x0 (i0 : Int)).fRef)) else default)))) then (some 1) else none))))) (fun r => r) 0))
theorem impl_CoinsFault_ev (x0 : List Coin) (h_x0 : (Lm smCoin) x0) : Evt (fun k => impl_CoinsFault.f k x0) (impl_CoinsFault_v x0) :=
  (Evt.ifh (fun hc4 => (Evt.self _)) (fun hc4 => (Evt.loop (r' := fun r => r) (Evt.srch (L := (fun k i => impl_CoinsFault.l0 x0 k i)) 0 x0.length (by have := h_x0; first | (have := this.1; omega) | omega) (fun (i0 : Nat) => (bif (((!(impl_isRef_v ((gt x0 (i0 : Int)).fRef))) || (!(bif (!(!(impl_isRef_v ((gt x0 (i0 : Int)).fRef)))) then (impl_isHeight_v ((gt x0 (i0 : Int)).fHeight)) else default))) || (!(bif (!((!(impl_isRef_v ((gt x0 (i0 : Int)).fRef))) || (!(bif (!(!(impl_isRef_v ((gt x0 (i0 : Int)).fRef)))) then (impl_isHeight_v ((gt x0 (i0 : Int)).fHeight)) else default)))) then (impl_within_v ((gt x0 (i0 : Int)).fOut.fValue) 1 1000000) else default))) then (some 3) else (bif ((impl_RuleFault_v ((gt x0 (i0 : Int)).fOut.fRule)) != 0) then (some (impl_RuleFault_v ((gt x0 (i0 : Int)).fOut.fRule))) else (bif ((decide (0 < (i0 : Int))) && (decide (0 ≤ (bif (decide (0 < (i0 : Int))) then (impl_compareRefs_v ((gt x0 (wrap64 ((i0 : Int) - 1))).fRef) ((gt x0 (i0 : Int)).fRef)) else default)))) then (some 1) else none)))) (fun i0 hs4 hi4 => by
  have hbn : x0.length ≤ 9223372036854775807 := (by have := h_x0; first | (have := this.1; omega) | omega)
  simp only [impl_CoinsFault.l0_s]
  exact Evt_t2 (int_lt hi4) (StE.chk (by first | exact idx_ok (by omega) | exact idx_ok (by have hq := len_eq (by assumption); omega) | exact idx_found (show (0 : Int) ≤ (i0 : Int) by simp_all) | exact cut_ok (by omega) | exact or_ok (idx_ok (by omega)) | (refine or1 (fun hz => pre_ok (by simp at hz; omega) (by omega) (by omega))) | exact pre_ok (by omega) (by omega) (by omega) | (simp_all [idxOk, cutOk, leB]; done) | (simp_all [idxOk, cutOk, leB]; omega) | (simp [idxOk, cutOk, leB] at *; omega) | (have hf0 := h_x0.1; simp only [leB, decide_eq_true_eq, List.length_append, List.length_cons, List.length_nil]; omega)) (StE.bind (impl_isRef_ev ((gt x0 (i0 : Int)).fRef)) (StE.bind (Evt.ifh (fun _ => (impl_isHeight_ev ((gt x0 (i0 : Int)).fHeight))) (fun _ => Evt.self _)) (StE.bind (Evt.ifh (fun _ => (impl_within_ev ((gt x0 (i0 : Int)).fOut.fValue) 1 1000000)) (fun _ => Evt.self _)) (StE.ifh (fun hc3 => (StE.ret _)) (fun hc3 => (StE.bind (impl_RuleFault_ev ((gt x0 (i0 : Int)).fOut.fRule) ((((h_x0).2 _ (gt_mem (by first | omega | (have hq := len_eq (by assumption); omega) | (have hf0 := h_x0.1; simp only [leB, decide_eq_true_eq, List.length_append, List.length_cons, List.length_nil]; omega)))).2.1).2)) (StE.ifh (fun hc2 => (StE.ret _)) (fun hc2 => (StE.chk (by first | exact idx_ok (by omega) | exact idx_ok (by have hq := len_eq (by assumption); omega) | exact idx_found (by simp_all) | exact cut_ok (by omega) | exact or_ok (idx_ok (by omega)) | (refine or1 (fun hz => pre_ok (by simp at hz; omega) (by omega) (by omega))) | exact pre_ok (by omega) (by omega) (by omega) | (simp_all [idxOk, cutOk, leB]; done) | (simp_all [idxOk, cutOk, leB]; omega) | (simp [idxOk, cutOk, leB] at *; omega) | (have hf0 := h_x0.1; simp only [leB, decide_eq_true_eq, List.length_append, List.length_cons, List.length_nil]; omega)) (StE.bind (Evt.ifh (fun _ => (impl_compareRefs_ev ((gt x0 (wrap64 ((i0 : Int) - 1))).fRef) ((gt x0 (i0 : Int)).fRef))) (fun _ => Evt.self _)) (StE.ifh (fun hc1 => (StE.ret _)) (fun hc1 => StE.next)))))))))))))) (fun j hj => by
  simp only [impl_CoinsFault.l0_s]
  exact Evt.f (ge_lt hj) (Evt.self _))) (fun _ => rfl) (Evt.self _))))
def slices_Clone_int64_v (x0 : List Int) : (List Int) := (([] : List Int) ++ x0)
theorem slices_Clone_int64_ev (x0 : List Int) (h_x0 : (Lm tr) x0) : Evt (fun k => slices_Clone_int64.f k x0) (slices_Clone_int64_v x0) :=
  (Evt.chk (by first | exact idx_ok (by omega) | exact idx_ok (by have hq := len_eq (by assumption); omega) | exact idx_found (by simp_all) | exact cut_ok (by omega) | exact or_ok (idx_ok (by omega)) | (refine or1 (fun hz => pre_ok (by simp at hz; omega) (by omega) (by omega))) | exact pre_ok (by omega) (by omega) (by omega) | (simp_all [idxOk, cutOk, leB]; done) | (simp_all [idxOk, cutOk, leB]; omega) | (simp [idxOk, cutOk, leB] at *; omega) | (have hf0 := h_x0.1; simp only [leB, decide_eq_true_eq, List.length_append, List.length_cons, List.length_nil]; omega)) (Evt.self _))
def impl_ownRule_v (x0 : Rule) : Rule := (⟨(slices_Clone_int64_v x0.fKeys), x0.fNeed, x0.fAfter⟩ : Rule)
theorem impl_ownRule_ev (x0 : Rule) (h_x0 : smRule x0) : Evt (fun k => impl_ownRule.f k x0) (impl_ownRule_v x0) :=
  (Evt.bind (slices_Clone_int64_ev x0.fKeys (h_x0.1)) (Evt.self _))
def impl_ownOut_v (x0 : Out) : Out := (⟨x0.fValue, (impl_ownRule_v x0.fRule)⟩ : Out)
theorem impl_ownOut_ev (x0 : Out) (h_x0 : smOut x0) : Evt (fun k => impl_ownOut.f k x0) (impl_ownOut_v x0) :=
  (Evt.bind (impl_ownRule_ev x0.fRule (h_x0.2)) (Evt.self _))
def impl_ownCoins_v (x0 : List Coin) : (List Coin) := ((List.range' 0 (x0.length - 0)).foldl (fun ac1 (i0 : Nat) => ((ac1 ++ ([(⟨(gt x0 (i0 : Int)).fRef, (impl_ownOut_v ((gt x0 (i0 : Int)).fOut)), (gt x0 (i0 : Int)).fHeight, (gt x0 (i0 : Int)).fMined⟩ : Coin)] : List Coin)))) ([] : List Coin))
theorem impl_ownCoins_ev (x0 : List Coin) (h_x0 : (Lm smCoin) x0) : Evt (fun k => impl_ownCoins.f k x0) (impl_ownCoins_v x0) :=
  (Evt.bind (Evt.gatherL (L := (fun k ac i => impl_ownCoins.l0 x0 k ac i)) x0.length (by have := h_x0; first | (have := this.1; omega) | omega) (fun ac1 (i0 : Nat) => ((ac1 ++ ([(⟨(gt x0 (i0 : Int)).fRef, (impl_ownOut_v ((gt x0 (i0 : Int)).fOut)), (gt x0 (i0 : Int)).fHeight, (gt x0 (i0 : Int)).fMined⟩ : Coin)] : List Coin)))) (fun i0 hi1 ac1 hgl => (by first | (simp only [List.length_append, List.length_cons, List.length_nil]; omega) | omega)) (fun i0 hi1 ac1 hgl o hg => by
  have hbn : x0.length ≤ 1048576 := (by have := h_x0; first | (have := this.1; omega) | omega)
  simp only [impl_ownCoins.l0_s]
  exact Evt.t (int_lt hi1) (Evt.chk (by first | (simp only [leB, decide_eq_true_eq, List.length_append, List.length_cons, List.length_nil]; omega) | exact idx_ok (by omega) | exact idx_ok (by have hq := len_eq (by assumption); omega) | exact idx_found (by simp_all) | exact cut_ok (by omega) | exact or_ok (idx_ok (by omega)) | (refine or1 (fun hz => pre_ok (by simp at hz; omega) (by omega) (by omega))) | exact pre_ok (by omega) (by omega) (by omega) | (simp_all [idxOk, cutOk, leB]; done) | (simp_all [idxOk, cutOk, leB]; omega) | (simp [idxOk, cutOk, leB] at *; omega) | (have hf0 := h_x0.1; simp only [leB, decide_eq_true_eq, List.length_append, List.length_cons, List.length_nil]; omega)) (Evt.bind (impl_ownOut_ev ((gt x0 (i0 : Int)).fOut) (((h_x0).2 _ (gt_mem (by first | omega | (have hq := len_eq (by assumption); omega) | (have hf0 := h_x0.1; simp only [leB, decide_eq_true_eq, List.length_append, List.length_cons, List.length_nil]; omega)))).2.1)) (Evt.chk (by first | (simp only [leB, decide_eq_true_eq, List.length_append, List.length_cons, List.length_nil]; omega) | exact idx_ok (by omega) | exact idx_ok (by have hq := len_eq (by assumption); omega) | exact idx_found (by simp_all) | exact cut_ok (by omega) | exact or_ok (idx_ok (by omega)) | (refine or1 (fun hz => pre_ok (by simp at hz; omega) (by omega) (by omega))) | exact pre_ok (by omega) (by omega) (by omega) | (simp_all [idxOk, cutOk, leB]; done) | (simp_all [idxOk, cutOk, leB]; omega) | (simp [idxOk, cutOk, leB] at *; omega) | (have hf0 := h_x0.1; simp only [leB, decide_eq_true_eq, List.length_append, List.length_cons, List.length_nil]; omega)) hg)))) (fun j ac hj => by
  simp only [impl_ownCoins.l0_s]
  exact Evt.f (ge_lt hj) (Evt.self _))) (Evt.self _))
theorem ownRule_id (r : Rule) : impl_ownRule_v r = r := by simp [impl_ownRule_v, slices_Clone_int64_v]
theorem ownOut_id (x : Out) : impl_ownOut_v x = x := by simp [impl_ownOut_v, ownRule_id]
theorem ownCoins_id (x0 : List Coin) : impl_ownCoins_v x0 = x0 := by
  have h := range_foldl x0 (fun ac (x : Coin) => ac ++ [(⟨x.fRef, impl_ownOut_v x.fOut, x.fHeight, x.fMined⟩ : Coin)]) []
  refine Eq.trans h ?_
  rw [fold_map]
  simp only [ownOut_id]
  simp
def impl_findCoin_1_v (x0 : Coin) (x1 : Ref) : Int := (impl_compareRefs_v x0.fRef x1)
theorem impl_findCoin_1_ev (x0 : Coin) (x1 : Ref) (h_x0 : smCoin x0) : Evt (fun k => impl_findCoin_1.f k x0 x1) (impl_findCoin_1_v x0 x1) :=
  (Evt.bind (impl_compareRefs_ev x0.fRef x1) (Evt.self _))
/-! ### Search in a row that rises -/
def bsI (q : Nat → Bool) : Nat → Nat → Nat → Nat
  | 0, i, _ => i
  | m + 1, i, j => bif decide (i < j) then (bif q ((i + j) / 2) then bsI q m ((i + j) / 2 + 1) j else bsI q m i ((i + j) / 2)) else i
theorem mid_eq {i j : Nat} (h1 : i < j) (h2 : j ≤ 1048576) : wrap64 ((IntKind.u64.wrap (wrap64 ((i : Int) + (j : Int)))) / 2 ^ ((1 : Int)).toNat) = (((i + j) / 2 : Nat) : Int) := by
  have e1 : wrap64 ((i : Int) + (j : Int)) = (i : Int) + j := wrap64_in _ (by omega)
  have e2 : IntKind.u64.wrap ((i : Int) + j) = (i : Int) + j := u64_in _ (by omega)
  have e3 : (2 : Int) ^ ((1 : Int)).toNat = 2 := by decide
  rw [e1, e2, e3]
  have e4 : ((i : Int) + j) / 2 = (((i + j) / 2 : Nat) : Int) := by omega
  rw [e4]
  exact wrap64_in _ (by omega)
theorem Evt.bs {L : Nat → Int → Int → Option Int} (n : Nat) (q : Nat → Bool)
    (step : ∀ i j : Nat, i < j → j ≤ n → ∀ r, (q ((i + j) / 2) = true → Evt (fun k => L k (((i + j) / 2 + 1 : Nat) : Int) (j : Int)) r) → (q ((i + j) / 2) = false → Evt (fun k => L k (i : Int) (((i + j) / 2 : Nat) : Int)) r) → Evt (fun k => L (k + 1) (i : Int) (j : Int)) r)
    (done : ∀ i j : Nat, j ≤ i → Evt (fun k => L (k + 1) (i : Int) (j : Int)) (i : Int)) : Evt (fun k => L k 0 (n : Int)) ((bsI q n 0 n : Nat) : Int) := by
  have key : ∀ m i j : Nat, j ≤ i + m → j ≤ n → Evt (fun k => L k (i : Int) (j : Int)) ((bsI q m i j : Nat) : Int) := by
    intro m
    induction m with
    | zero => intro i j h _; exact Evt.s (done i j (by omega))
    | succ m ih =>
      intro i j h hj
      refine Evt.s ?_
      unfold bsI
      by_cases hlt : i < j
      · rw [decide_eq_true hlt]
        refine step i j hlt hj _ (fun hq => ?_) (fun hq => ?_)
        · rw [hq]; exact ih _ _ (by omega) hj
        · rw [hq]; exact ih _ _ (by omega) (by omega)
      · rw [decide_eq_false hlt]; exact done i j (by omega)
  exact key n 0 n (by omega) (Nat.le_refl _)
theorem bsI_spec (q : Nat → Bool) (n : Nat) (mono : ∀ a b, a ≤ b → b < n → q b = true → q a = true) :
    bsI q n 0 n ≤ n ∧ (∀ i, i < bsI q n 0 n → q i = true) ∧ (∀ i, bsI q n 0 n ≤ i → i < n → q i = false) := by
  have key : ∀ m i j : Nat, j ≤ i + m → i ≤ j → j ≤ n → (∀ a, a < i → q a = true) → (∀ a, j ≤ a → a < n → q a = false) →
      bsI q m i j ≤ n ∧ (∀ a, a < bsI q m i j → q a = true) ∧ (∀ a, bsI q m i j ≤ a → a < n → q a = false) := by
    intro m
    induction m with
    | zero =>
      intro i j h hij hj h1 h2
      have : i = j := by omega
      subst this
      exact ⟨hj, h1, h2⟩
    | succ m ih =>
      intro i j h hij hj h1 h2
      unfold bsI
      by_cases hlt : i < j
      · rw [decide_eq_true hlt]
        cases hq : q ((i + j) / 2)
        · exact ih _ _ (by omega) (by omega) (by omega) h1 fun a ha hn => by
            cases hqa : q a
            · rfl
            · rw [mono _ a ha hn hqa] at hq; cases hq
        · exact ih _ _ (by omega) (by omega) hj (fun a ha => mono a _ (by omega) (by omega) hq) h2
      · rw [decide_eq_false hlt]
        have : i = j := by omega
        subst this
        exact ⟨hj, h1, h2⟩
  exact key n 0 n (by omega) (by omega) (Nat.le_refl _) (fun a ha => by omega) (fun a ha hn => by omega)
theorem fs_none {β : Type} {p : Nat → Option β} : ∀ {l : List Nat}, (∀ i ∈ l, p i = none) → l.findSome? p = none
  | [], _ => rfl
  | i :: l, h => by rw [List.findSome?_cons, h i (List.mem_cons_self ..)]; exact fs_none fun j hj => h j (List.mem_cons_of_mem _ hj)
theorem fs_first {β : Type} {p : Nat → Option β} {x : β} : ∀ (d i B : Nat), i ≤ B → B < i + d → (∀ j, i ≤ j → j < B → p j = none) → p B = some x → (List.range' i d).findSome? p = some x
  | 0, i, B, h1, h2, _, _ => by omega
  | d + 1, i, B, h1, h2, h3, h4 => by
    rw [List.range'_succ, List.findSome?_cons]
    by_cases e : i = B
    · subst e; rw [h4]
    · rw [h3 i (Nat.le_refl _) (by omega)]
      exact fs_first d (i + 1) B (by omega) (by omega) (fun j hj => h3 j (by omega)) h4
theorem fs_all {β : Type} {p : Nat → Option β} {n : Nat} (h : (List.range' 0 (n - 0)).findSome? p = none) : ∀ i, i < n → p i = none := by
  intro i hi
  rw [List.findSome?_eq_none_iff] at h
  exact h i (by rw [List.mem_range']; exact ⟨i, by omega, by omega⟩)
/-- The search by halves finds what the search in turn finds. -/
theorem bs_find (n : Nat) (c : Nat → Int) (mono : ∀ a b, a ≤ b → b < n → c b < 0 → c a < 0) (str : ∀ a b, a < b → b < n → c b = 0 → c a < 0) (d : Int) :
    (List.range' 0 (n - 0)).findSome? (fun i => bif c i == 0 then some (i : Int) else none) =
      bif decide (((bsI (fun i => decide (c i < 0)) n 0 n : Nat) : Int) < (n : Int)) && ((bif decide (((bsI (fun i => decide (c i < 0)) n 0 n : Nat) : Int) < (n : Int)) then c (bsI (fun i => decide (c i < 0)) n 0 n) else d) == 0) then some ((bsI (fun i => decide (c i < 0)) n 0 n : Nat) : Int) else none := by
  obtain ⟨h1, h2, h3⟩ := bsI_spec (fun i => decide (c i < 0)) n (fun a b h hb hq => by simp at hq ⊢; exact mono a b h hb hq)
  generalize bsI (fun i => decide (c i < 0)) n 0 n = B at *
  by_cases hB : B < n
  · rw [decide_eq_true (show (B : Int) < (n : Int) by omega)]
    simp only [Bool.true_and, cond_true]
    by_cases h0 : c B = 0
    · rw [h0]
      refine fs_first (n - 0) 0 B (Nat.zero_le _) (by omega) (fun j _ hj => ?_) (by rw [h0]; rfl)
      have := h2 j hj
      simp at this
      have : (c j == 0) = false := by simp; omega
      rw [this]; rfl
    · have e0 : (c B == 0) = false := by simp [h0]
      rw [e0]
      refine fs_none fun i hi => ?_
      obtain ⟨j, hj, rfl⟩ := List.mem_range'.1 hi
      have e : (c (0 + 1 * j) == 0) = false := by
        simp only [beq_eq_false_iff_ne, ne_eq]
        intro hc
        rcases Nat.lt_trichotomy (0 + 1 * j) B with h | h | h
        · have := h2 _ h; simp at this; simp at hc; omega
        · rw [h] at hc; exact h0 hc
        · have h4 := str B _ h (by omega) hc
          have h5 := h3 B (Nat.le_refl _) hB
          simp at h5; omega
      rw [e]; rfl
  · rw [decide_eq_false (show ¬ (B : Int) < (n : Int) by omega)]
    refine fs_none fun i hi => ?_
    obtain ⟨j, hj, rfl⟩ := List.mem_range'.1 hi
    have h4 := h2 (0 + 1 * j) (by omega)
    simp only [decide_eq_true_eq] at h4
    have e : (c (0 + 1 * j) == 0) = false := by simp only [beq_eq_false_iff_ne, ne_eq]; omega
    rw [e]; rfl
def slices_BinarySearchFunc_impl_Coin_v (x0 : List Coin) (x1 : Ref) : Int × Bool := (((bsI (fun i => decide (impl_findCoin_1_v (gt x0 (i : Int)) x1 < 0)) x0.length 0 x0.length : Nat) : Int), (decide (((bsI (fun i => decide (impl_findCoin_1_v (gt x0 (i : Int)) x1 < 0)) x0.length 0 x0.length : Nat) : Int) < (x0.length : Int)) && ((bif decide (((bsI (fun i => decide (impl_findCoin_1_v (gt x0 (i : Int)) x1 < 0)) x0.length 0 x0.length : Nat) : Int) < (x0.length : Int)) then impl_findCoin_1_v (gt x0 ((bsI (fun i => decide (impl_findCoin_1_v (gt x0 (i : Int)) x1 < 0)) x0.length 0 x0.length : Nat) : Int)) x1 else default) == 0)))
theorem slices_BinarySearchFunc_impl_Coin_ev (x0 : List Coin) (x1 : Ref) (h_x0 : ((Lm smCoin)) x0) : Evt (fun k => slices_BinarySearchFunc_impl_Coin.f k x0 x1) (slices_BinarySearchFunc_impl_Coin_v x0 x1) := by
  have hn := h_x0.1
  refine Evt.bind (Evt.bs (L := fun k i j => slices_BinarySearchFunc_impl_Coin.l0 x0 x1 k i j) x0.length (fun i => decide (impl_findCoin_1_v (gt x0 (i : Int)) x1 < 0)) (fun i j h1 h2 r ht hf => ?_) (fun i j h => ?_)) ?_
  · simp only [slices_BinarySearchFunc_impl_Coin.l0_s, mid_eq h1 (Nat.le_trans h2 hn)]
    refine Evt.t (by simp; omega) (Evt.chk rfl (Evt.chk (idx_ok (by omega)) (Evt.bind (impl_findCoin_1_ev (gt x0 _) x1 (h_x0.2 _ (gt_mem (by omega)))) (Evt.cases (fun hq => ?_) (fun hq => ?_)))))
    · rw [w64 (n := x0.length) (by omega) (by omega)]; exact ht hq
    · exact hf hq
  · simp only [slices_BinarySearchFunc_impl_Coin.l0_s]
    exact Evt.f (by simp; omega) (Evt.self _)
  · refine Evt.chk (or1 fun hz => idx_ok (by simp at hz; omega)) (Evt.bind (Evt.ifh (fun hz => impl_findCoin_1_ev (gt x0 _) x1 (h_x0.2 _ (gt_mem (by simp at hz; omega)))) (fun _ => Evt.self _)) (Evt.self _))
def impl_findCoin_v (x0 : List Coin) (x1 : Ref) : Int × Bool := ((slices_BinarySearchFunc_impl_Coin_v x0 x1).1, (slices_BinarySearchFunc_impl_Coin_v x0 x1).2)
theorem impl_findCoin_ev (x0 : List Coin) (x1 : Ref) (h_x0 : (Lm smCoin) x0) : Evt (fun k => impl_findCoin.f k x0 x1) (impl_findCoin_v x0 x1) :=
  (Evt.bind (slices_BinarySearchFunc_impl_Coin_ev x0 x1 (h_x0)) (Evt.self _))
theorem findCoin_in (x0 : List Coin) (x1 : Ref) (h : (!(impl_findCoin_v x0 x1).2) = false) : idxOk (impl_findCoin_v x0 x1).1 x0.length = true := by
  have h2 : (impl_findCoin_v x0 x1).2 = true := notF h
  have h3 : (decide ((impl_findCoin_v x0 x1).1 < (x0.length : Int))) = true := by
    have : (decide ((impl_findCoin_v x0 x1).1 < (x0.length : Int)) && _) = true := h2
    exact (Bool.and_eq_true _ _ ▸ this).1
  unfold idxOk
  rw [Bool.and_eq_true]
  exact ⟨by show decide (0 ≤ ((_ : Nat) : Int)) = true; simp, h3⟩
def slices_Delete_impl_Coin_v (x0 : List Coin) (x1 : Int) (x2 : Int) : List Coin := bif (x1 == x2) then x0 else x0.take (x1).toNat ++ x0.drop (x2).toNat
theorem slices_Delete_impl_Coin_ev (x0 : List Coin) (x1 : Int) (x2 : Int) (h1 : cutOk x2 x0.length = true) (h2 : cutOk x1 (x2).toNat = true) : Evt (fun k => slices_Delete_impl_Coin.f k x0 x1 x2) (slices_Delete_impl_Coin_v x0 x1 x2) := by
  have a1 := cut_lo h2
  have a2 := cut_hi h2
  have a3 := cut_hi h1
  have a4 := cut_lo h1
  refine Evt.chk h1 (Evt.chk h2 (Evt.ifh (fun _ => Evt.self _) (fun hne => Evt.chk ?_ (Evt.chk h1 (Evt.chk h2 (Evt.chk ?_ (Evt.chk ?_ (Evt.self _))))))))
  · unfold cutOk; simp; omega
  · have h5 : x1 ≠ x2 := by simpa using hne
    simp; omega
  · rw [List.length_append, List.length_take, List.length_drop]; simp; omega
def takeG2 (out : List Coin) (r : Ref) : Option (List Coin) := bif !(impl_findCoin_v out r).2 then none else some (slices_Delete_impl_Coin_v out (impl_findCoin_v out r).1 (wrap64 ((impl_findCoin_v out r).1 + 1)))
theorem takeG2_pres (s : List Coin) (r : Ref) (t : List Coin) (hs : Lm smCoin s) (h : takeG2 s r = some t) : t.Sublist s := by
  unfold takeG2 at h
  cases hc : !(impl_findCoin_v s r).2
  · rw [hc] at h
    have h2 : slices_Delete_impl_Coin_v s (impl_findCoin_v s r).1 (wrap64 ((impl_findCoin_v s r).1 + 1)) = t := Option.some.inj h
    subst h2
    have h3 := findCoin_in s r hc
    unfold slices_Delete_impl_Coin_v
    cases (impl_findCoin_v s r).1 == wrap64 ((impl_findCoin_v s r).1 + 1)
    · exact cut_sub s (cut_hi (cut_self h3 hs.1))
    · exact List.Sublist.refl _
  · rw [hc] at h; cases h
def impl_takeCoins_v (x0 : List Coin) (x1 : List Ref) : (List Coin) × Int := match stepAll takeG2 (impl_ownCoins_v x0) x1 with
  | some t => (t, 0)
  | none => ([], 4)
theorem impl_takeCoins_ev (x0 : List Coin) (x1 : List Ref) (h_x0 : Lm smCoin x0) (h_x1 : Lm smRef x1) : Evt (fun k => impl_takeCoins.f k x0 x1) (impl_takeCoins_v x0 x1) := by
  have hn := h_x1.1
  refine Evt.bind (impl_ownCoins_ev x0 h_x0) (Evt.bind (Evt.steps (L := fun k s i => impl_takeCoins.l0 x1 k s i) x1 (by omega) (Lm smCoin) takeG2 (([] : List Coin), (4 : Int)) (fun i hi s hs o hsome hnone => ?_) (fun s r t hs h => Lm_sub hs (takeG2_pres s r t hs h)) (fun s => ?_) (impl_ownCoins_v x0) (by rw [ownCoins_id]; exact h_x0)) ?_)
  · simp only [impl_takeCoins.l0_s]
    refine Evt.t (int_lt hi) (Evt.chk (idx_ok hi) (Evt.bind (impl_findCoin_ev s _ hs) (Evt.cases (fun hc => ?_) (fun hc => ?_))))
    · exact Evt.ret (hnone (by unfold takeG2; rw [hc]; rfl)).symm
    · have h3 := findCoin_in s _ hc
      exact Evt.bind (slices_Delete_impl_Coin_ev s _ _ (cut_next h3 hs.1) (cut_self h3 hs.1)) (hsome _ (by unfold takeG2; rw [hc]; rfl))
  · simp only [impl_takeCoins.l0_s]
    exact Evt.f int_nlt (Evt.self _)
  · unfold impl_takeCoins_v
    cases stepAll takeG2 (impl_ownCoins_v x0) x1 with
    | some t => exact Evt.self _
    | none => exact Evt.self _
def impl_TakeCoins_v (x0 : List Coin) (x1 : List Ref) : CoinsResult := (bif ((impl_CoinsFault_v x0) != 0) then (⟨(impl_CoinsFault_v x0), ([] : List Coin)⟩ : CoinsResult) else (bif (decide (4 < (x1.length : Int))) then (⟨2, ([] : List Coin)⟩ : CoinsResult) else (⟨(impl_takeCoins_v x0 x1).2, (impl_takeCoins_v x0 x1).1⟩ : CoinsResult)))
theorem impl_TakeCoins_ev (x0 : List Coin) (x1 : List Ref) (h_x0 : (Lm smCoin) x0) (h_x1 : (Lm smRef) x1) : Evt (fun k => impl_TakeCoins.f k x0 x1) (impl_TakeCoins_v x0 x1) :=
  (Evt.bind (impl_CoinsFault_ev x0 (h_x0)) (Evt.ifh (fun hc1 => (Evt.self _)) (fun hc1 => (Evt.ifh (fun hc0 => (Evt.self _)) (fun hc0 => (Evt.bind (impl_takeCoins_ev x0 x1 (h_x0) (h_x1)) (Evt.self _)))))))
theorem eqRef_ev (x : Ref) (h : smRef x) : Evt (fun k => laws_eqRef.f k x x) true := Evt.f (by simp [sEq_refl]) (Evt.f (by simp [sEq_refl]) (Evt.self _))
theorem eqInt64S_ev (x : List Int) (h : (Lm tr) x) : Evt (fun k => laws_eqInt64S.f k x x) true := by
  have hn := h.1
  refine (Evt.eqr (L := fun k i => laws_eqInt64S.l0 x x k i) (fun _ _ => true) x x (by omega) (fun i h1 h2 o ht hf => ?_) ?_).to (eqRows_refl (fun _ => rfl) x)
  · refine Evt.s ?_
    simp only [laws_eqInt64S.l0_s]
    exact Evt.t (int_lt h1) (Evt.chk (idx_ok h1) (Evt.chk (idx_ok h2) (Evt.f (by simp [sEq_refl]) (ht rfl))))
  · refine Evt.s ?_
    simp only [laws_eqInt64S.l0_s]
    exact Evt.f int_nlt (Evt.self _)
theorem eqRule_ev (x : Rule) (h : smRule x) : Evt (fun k => laws_eqRule.f k x x) true := Evt.bind (eqInt64S_ev _ h.1) (Evt.f rfl (Evt.f (by simp [sEq_refl]) (Evt.f (by simp [sEq_refl]) (Evt.self _))))
theorem eqOut_ev (x : Out) (h : smOut x) : Evt (fun k => laws_eqOut.f k x x) true := Evt.f (by simp [sEq_refl]) (Evt.bind (eqRule_ev _ h.2) (Evt.f rfl (Evt.self _)))
theorem eqCoin_ev (x : Coin) (h : smCoin x) : Evt (fun k => laws_eqCoin.f k x x) true := Evt.bind (eqRef_ev _ h.1) (Evt.f rfl (Evt.bind (eqOut_ev _ h.2.1) (Evt.f rfl (Evt.f (by simp [sEq_refl]) (Evt.f (by simp [sEq_refl]) (Evt.self _))))))
theorem eqCoinS_ev (x : List Coin) (h : (Lm smCoin) x) : Evt (fun k => laws_eqCoinS.f k x x) true := by
  have hn := h.1
  refine (Evt.eqr (L := fun k i => laws_eqCoinS.l0 x x k i) (fun _ _ => true) x x (by omega) (fun i h1 h2 o ht hf => ?_) ?_).to (eqRows_refl (fun _ => rfl) x)
  · refine Evt.s ?_
    simp only [laws_eqCoinS.l0_s]
    exact Evt.t (int_lt h1) (Evt.chk (idx_ok h1) (Evt.chk (idx_ok h2) (Evt.bind (eqCoin_ev _ (h.2 _ (gt_mem h1))) (Evt.f rfl (ht rfl)))))
  · refine Evt.s ?_
    simp only [laws_eqCoinS.l0_s]
    exact Evt.f int_nlt (Evt.self _)
theorem eqCoinsResult_ev (x : CoinsResult) (h : smCoinsResult x) : Evt (fun k => laws_eqCoinsResult.f k x x) true := Evt.f (by simp [sEq_refl]) (Evt.bind (eqCoinS_ev _ h.2) (Evt.f rfl (Evt.self _)))
theorem eqRefS_ev (x : List Ref) (h : (Lm smRef) x) : Evt (fun k => laws_eqRefS.f k x x) true := by
  have hn := h.1
  refine (Evt.eqr (L := fun k i => laws_eqRefS.l0 x x k i) (fun _ _ => true) x x (by omega) (fun i h1 h2 o ht hf => ?_) ?_).to (eqRows_refl (fun _ => rfl) x)
  · refine Evt.s ?_
    simp only [laws_eqRefS.l0_s]
    exact Evt.t (int_lt h1) (Evt.chk (idx_ok h1) (Evt.chk (idx_ok h2) (Evt.bind (eqRef_ev _ (h.2 _ (gt_mem h1))) (Evt.f rfl (ht rfl)))))
  · refine Evt.s ?_
    simp only [laws_eqRefS.l0_s]
    exact Evt.f int_nlt (Evt.self _)
theorem markInt64S_mh (x : List Int) (h : (Lm tr) x) (s : Int) (h1 : 1 ≤ s) (h2 : s + 1048576 ≤ 4611686018427387904) : ∃ y t, s ≤ t ∧ t ≤ s + 1048576 ∧ Evt (fun k => laws_markInt64S.f k x s) (t, y) ∧ Evt (fun k => laws_heldInt64S.f k y s) t := by
  have hn := h.1
  have hc : (x.length : Int) * 1 ≤ 1048576 := by omega
  obtain ⟨ys, t, a1, a2, a3, a4, a5⟩ := mark_held (fun k a s i => laws_markInt64S.l0 k a s i) (fun a k s i => laws_heldInt64S.l0 a k s i) True 1 (by omega) tr (fun acc s i hi hp h1 h2 => by
    have w0 : wrap64 (s + 1) = s + 1 := wrap64_in _ (by omega)
    refine ⟨s, (s + 1), by omega, by omega, fun r hr => ?_, fun hB ys hi hy r hr => ?_⟩
    · simp only [laws_markInt64S.l0_s, int_lt hi, cond_true, idx_ok hi, chkT, Int.toNat_natCast, List.length_set, gt_set hi, List.set_set, w0]
      exact hr
    · simp only [laws_heldInt64S.l0_s, int_lt hi, cond_true, idx_ok hi, chkT, hy, bne_self_eq_false, cond_false, w0]
      exact hr) (fun acc s => by
    simp only [laws_markInt64S.l0_s]
    exact Evt.f int_nlt (Evt.self _)) (fun _ ys s => by
    simp only [laws_heldInt64S.l0_s]
    exact Evt.f int_nlt (Evt.self _)) x (by omega) h.2 s h1 (by omega)
  exact ⟨ys, t, a2, by omega, Evt.bind a4 (Evt.self _), Evt.bind (a5 trivial) (Evt.self _)⟩
theorem markCoinS_mh (x : List Coin) (h : (Lm smCoin) x) (s : Int) (h1 : 1 ≤ s) (h2 : s + 1099518967808 ≤ 4611686018427387904) : ∃ y t, s ≤ t ∧ t ≤ s + 1099518967808 ∧ Evt (fun k => laws_markCoinS.f k x s) (t, y) ∧ Evt (fun k => laws_heldCoinS.f k y s) t := by
  have hn := h.1
  have hc : (x.length : Int) * 1048583 ≤ 1099518967808 := by omega
  obtain ⟨ys, t, a1, a2, a3, a4, a5⟩ := mark_held (fun k a s i => laws_markCoinS.l0 k a s i) (fun a k s i => laws_heldCoinS.l0 a k s i) True 1048583 (by omega) smCoin (fun acc s i hi hp h1 h2 => by
    have w0 : wrap64 (s + 1) = s + 1 := wrap64_in _ (by omega)
    have w1 : wrap64 (s + 1 + 1) = s + 1 + 1 := wrap64_in _ (by omega)
    have w2 : wrap64 (s + 1 + 1 + 1) = s + 1 + 1 + 1 := wrap64_in _ (by omega)
    obtain ⟨y3, t3, l3, u3, e3, g3⟩ := markInt64S_mh (gt acc (i : Int)).fOut.fRule.fKeys hp.2.1.2.1 (s + 1 + 1 + 1) (by omega) (by omega)
    have n3 : decide (t3 < 0) = false := by simp; omega
    have w4 : wrap64 (t3 + 1) = t3 + 1 := wrap64_in _ (by omega)
    have w5 : wrap64 (t3 + 1 + 1) = t3 + 1 + 1 := wrap64_in _ (by omega)
    have w6 : wrap64 (t3 + 1 + 1 + 1) = t3 + 1 + 1 + 1 := wrap64_in _ (by omega)
    have w7 : wrap64 (t3 + 1 + 1 + 1 + 1) = t3 + 1 + 1 + 1 + 1 := wrap64_in _ (by omega)
    have h3 : ((3 : Int) != 0) = true := by decide
    refine ⟨⟨⟨s, s + 1⟩, ⟨s + 1 + 1, ⟨y3, t3, t3 + 1⟩⟩, t3 + 1 + 1, (Int.tmod (t3 + 1 + 1 + 1) 3 == 0)⟩, t3 + 1 + 1 + 1 + 1, by omega, by omega, fun r hr => ?_, fun hB ys hi hy r hr => ?_⟩
    · simp only [laws_markCoinS.l0_s, int_lt hi, cond_true, cond_false, idx_ok hi, chkT, Int.toNat_natCast, h3, w0, w1, w2, w4, w5, w6, w7]
      refine Evt.bind e3 ?_
      try simp only [int_lt hi, cond_true, cond_false, idx_ok hi, chkT, Int.toNat_natCast, h3, w0, w1, w2, w4, w5, w6, w7]
      exact hr
    · simp only [laws_heldCoinS.l0_s, hy, bne_self_eq_false, int_lt hi, cond_true, cond_false, idx_ok hi, chkT, Int.toNat_natCast, h3, w0, w1, w2, w4, w5, w6, w7]
      refine Evt.bind g3 ?_
      try simp only [hy, bne_self_eq_false, n3, int_lt hi, cond_true, cond_false, idx_ok hi, chkT, Int.toNat_natCast, h3, w0, w1, w2, w4, w5, w6, w7]
      exact hr) (fun acc s => by
    simp only [laws_markCoinS.l0_s]
    exact Evt.f int_nlt (Evt.self _)) (fun _ ys s => by
    simp only [laws_heldCoinS.l0_s]
    exact Evt.f int_nlt (Evt.self _)) x (by omega) h.2 s h1 (by omega)
  exact ⟨ys, t, a2, by omega, Evt.bind a4 (Evt.self _), Evt.bind (a5 trivial) (Evt.self _)⟩
theorem markRefS_mh (x : List Ref) (h : (Lm smRef) x) (s : Int) (h1 : 1 ≤ s) (h2 : s + 2097152 ≤ 4611686018427387904) : ∃ y t, s ≤ t ∧ t ≤ s + 2097152 ∧ Evt (fun k => laws_markRefS.f k x s) (t, y) := by
  have hn := h.1
  have hc : (x.length : Int) * 2 ≤ 2097152 := by omega
  obtain ⟨ys, t, a1, a2, a3, a4, a5⟩ := mark_held (fun k a s i => laws_markRefS.l0 k a s i) (fun a k s i => none) False 2 (by omega) smRef (fun acc s i hi hp h1 h2 => by
    have w0 : wrap64 (s + 1) = s + 1 := wrap64_in _ (by omega)
    have w1 : wrap64 ((s + 1) + 1) = (s + 1) + 1 := wrap64_in _ (by omega)
    refine ⟨⟨s, (s + 1)⟩, ((s + 1) + 1), by omega, by omega, fun r hr => ?_, fun hB ys hi hy r hr => ?_⟩
    · simp only [laws_markRefS.l0_s, int_lt hi, cond_true, idx_ok hi, chkT, Int.toNat_natCast, List.length_set, gt_set hi, List.set_set, w0, w1]
      exact hr
    · exact hB.elim) (fun acc s => by
    simp only [laws_markRefS.l0_s]
    exact Evt.f int_nlt (Evt.self _)) (fun h => h.elim) x (by omega) h.2 s h1 (by omega)
  exact ⟨ys, t, a2, by omega, Evt.bind a4 (Evt.self _)⟩
theorem markCoinsResult_mh (x : CoinsResult) (h : smCoinsResult x) (s : Int) (h1 : 1 ≤ s) (h2 : s + 1099518967809 ≤ 4611686018427387904) : ∃ y0_0 t, s ≤ t ∧ t ≤ s + 1099518967809 ∧ Evt (fun k => laws_markCoinsResult.f k x s) (t, y0_0) ∧ Evt (fun k => laws_heldCoinsResult.f k (⟨x.fCode, y0_0⟩ : CoinsResult) s) t := by
  obtain ⟨y0_0, t0, l0, u0, e0, g0⟩ := markCoinS_mh x.fCoins h.2 s (by omega) (by omega)
  exact ⟨y0_0, t0, by omega, by omega, (Evt.bind e0 (Evt.self _)), (Evt.bind g0 (Evt.f (by simp; omega) (Evt.self _)))⟩
theorem refs_same (r : Ref) : impl_isRef_v r = spec_l3Ref_v r := by simp only [impl_isRef_v, spec_l3Ref_v, impl_isId_v, impl_within_v, spec_l1In_v]
theorem ruleFault_same (x0 : Rule) : impl_RuleFault_v x0 = spec_l2Fault_v x0 := by
  simp only [impl_RuleFault_v, spec_l2Fault_v, impl_areKeys_v, slices_ContainsFunc_int64_any, impl_areKeys_1_v, impl_isKey_v, spec_l1Key_v, impl_within_v, spec_l1In_v, impl_isHeight_v, spec_l2Height_v, impl_isRising_v, found_any]
  generalize (List.range' 0 (x0.fKeys.length - 0)).any _ = a
  generalize (List.range' 1 (x0.fKeys.length - 1)).any _ = b
  generalize (decide (1 ≤ x0.fNeed) && decide (x0.fNeed ≤ (x0.fKeys.length : Int))) = c
  generalize (decide (0 ≤ x0.fAfter) && decide (x0.fAfter ≤ 999)) = d
  generalize (decide (1 ≤ (x0.fKeys.length : Int)) && decide ((x0.fKeys.length : Int) ≤ 3)) = e
  cases a <;> cases b <;> cases c <;> cases d <;> cases e <;> rfl
theorem or_two (p q : Int) : cmp_Or_int_v ([p, q] : List Int) = bif p != 0 then p else bif q != 0 then q else 0 := by
  show onO (([0, 1] : List Nat).findSome? fun i : Nat => bif (gt [p, q] (i : Int)) != 0 then some (gt [p, q] (i : Int)) else none) (fun r => r) 0 = _
  have e0 : gt [p, q] ((0 : Nat) : Int) = p := rfl
  have e1 : gt [p, q] ((1 : Nat) : Int) = q := rfl
  rw [List.findSome?_cons, List.findSome?_cons, List.findSome?_nil, e0, e1]
  cases (p != 0) <;> cases (q != 0) <;> rfl
theorem compare_eq (a b : Int) : cmp_Compare_int64_v a b = bif decide (a < b) then -1 else bif decide (b < a) then 1 else 0 := by
  have e : ∀ x : Int, cmp_isNaN_int64_v x = false := fun x => by simp [cmp_isNaN_int64_v]
  simp only [cmp_Compare_int64_v, e]; rfl
theorem ahead_eq (a b : Ref) : decide (0 ≤ impl_compareRefs_v a b) = !(spec_l4Ahead_v a b) := by
  have e : impl_compareRefs_v a b = bif (cmp_Compare_int64_v a.fTx b.fTx) != 0 then cmp_Compare_int64_v a.fTx b.fTx else bif (cmp_Compare_int64_v a.fAt b.fAt) != 0 then cmp_Compare_int64_v a.fAt b.fAt else 0 := or_two _ _
  rw [e, compare_eq, compare_eq]
  unfold spec_l4Ahead_v
  by_cases h1 : a.fTx < b.fTx
  · have h2 : ¬ a.fTx = b.fTx := by omega
    simp [h1, h2]
  · by_cases h2 : b.fTx < a.fTx
    · have h3 : ¬ a.fTx = b.fTx := by omega
      simp [h1, h2, h3]
    · have h3 : a.fTx = b.fTx := by omega
      by_cases h4 : a.fAt < b.fAt
      · simp [h3, h4]
      · by_cases h5 : b.fAt < a.fAt
        · simp [h3, h4, h5]
        · simp [h3, h4, h5]
theorem coinsFault_same (x0 : List Coin) : impl_CoinsFault_v x0 = spec_l4Fault_v x0 := by
  unfold impl_CoinsFault_v spec_l4Fault_v
  congr 2
  refine fs_congr fun i hi => ?_
  simp only [refs_same, ruleFault_same, spec_l4Out_v]
  have e1 : ∀ n a b : Int, impl_within_v n a b = spec_l1In_v n a b := fun _ _ _ => rfl
  have e2 : ∀ n : Int, impl_isHeight_v n = spec_l2Height_v n := fun _ => rfl
  have e3 : (decide (0 < (i : Int)) && decide (0 ≤ (bif decide (0 < (i : Int)) then impl_compareRefs_v (gt x0 (wrap64 ((i : Int) - 1))).fRef (gt x0 (i : Int)).fRef else default))) =
      (decide (0 < (i : Int)) && !(bif decide (0 < (i : Int)) then spec_l4Ahead_v (gt x0 (wrap64 ((i : Int) - 1))).fRef (gt x0 (i : Int)).fRef else default)) := by
    cases decide (0 < (i : Int))
    · rfl
    · exact ahead_eq _ _
  rw [e3]
  simp only [e1, e2]
  generalize (decide (0 < (i : Int)) && !(bif decide (0 < (i : Int)) then spec_l4Ahead_v (gt x0 (wrap64 ((i : Int) - 1))).fRef (gt x0 (i : Int)).fRef else default)) = z
  generalize spec_l3Ref_v (gt x0 (i : Int)).fRef = a
  generalize spec_l2Height_v (gt x0 (i : Int)).fHeight = b
  generalize spec_l1In_v (gt x0 (i : Int)).fOut.fValue 1 1000000 = c
  cases a <;> cases b <;> cases c <;> rfl
theorem rising (f : Nat → Int) (n : Nat) (h : ∀ i, i + 1 < n → f i < f (i + 1)) : ∀ d a, a + d + 1 < n → f a < f (a + d + 1)
  | 0, a, hb => h a hb
  | d + 1, a, hb => by
    have h1 := rising f n h d a (by omega)
    have h2 := h (a + d + 1) hb
    have e : a + (d + 1) + 1 = a + d + 1 + 1 := by omega
    rw [e]; omega
theorem onO_zero {l : List Nat} {p : Nat → Option Int} {c : Int} (h : onO (l.findSome? p) (fun r => r) c = 0) (hp : ∀ i, p i ≠ some 0) : l.findSome? p = none ∧ c = 0 := by
  cases hf : l.findSome? p with
  | none => rw [hf] at h; exact ⟨rfl, h⟩
  | some r =>
    rw [hf] at h
    obtain ⟨i, _, hi⟩ := List.exists_of_findSome?_eq_some hf
    have : r = 0 := h
    subst this
    exact absurd hi (hp i)
theorem compare_lt (a b : Int) : cmp_Compare_int64_v a b < 0 ↔ a < b := by
  rw [compare_eq]
  by_cases h : a < b
  · simp [h]
  · by_cases h2 : b < a <;> simp [h, h2]
theorem compare_zero (a b : Int) : cmp_Compare_int64_v a b = 0 ↔ a = b := by
  rw [compare_eq]
  by_cases h : a < b
  · simp [h]; omega
  · by_cases h2 : b < a
    · simp [h, h2]; omega
    · simp [h, h2]; omega
def lexL (a b : Ref) : Prop := a.fTx < b.fTx ∨ a.fTx = b.fTx ∧ a.fAt < b.fAt
theorem risingR {R : Nat → Nat → Prop} (n : Nat) (tr : ∀ a b c, c < n → R a b → R b c → R a c) (h : ∀ i, i + 1 < n → R i (i + 1)) : ∀ d a, a + d + 1 < n → R a (a + d + 1)
  | 0, a, hb => h a hb
  | d + 1, a, hb => tr _ _ _ hb (risingR n tr h d a (by omega)) (h (a + d + 1) hb)
theorem compareRefs_lt (a b : Ref) : impl_compareRefs_v a b < 0 ↔ lexL a b := by
  have e : impl_compareRefs_v a b = bif (cmp_Compare_int64_v a.fTx b.fTx) != 0 then cmp_Compare_int64_v a.fTx b.fTx else bif (cmp_Compare_int64_v a.fAt b.fAt) != 0 then cmp_Compare_int64_v a.fAt b.fAt else 0 := or_two _ _
  rw [e, compare_eq, compare_eq]
  unfold lexL
  by_cases h1 : a.fTx < b.fTx
  · simp [h1]
  · by_cases h2 : b.fTx < a.fTx
    · simp [h1, h2]; omega
    · have h3 : a.fTx = b.fTx := by omega
      by_cases h4 : a.fAt < b.fAt
      · simp [h3, h4]
      · by_cases h5 : b.fAt < a.fAt
        · simp [h3, h4, h5]
        · simp [h3, h4, h5]
theorem compareRefs_zero (a b : Ref) : impl_compareRefs_v a b = 0 ↔ a.fTx = b.fTx ∧ a.fAt = b.fAt := by
  have e : impl_compareRefs_v a b = bif (cmp_Compare_int64_v a.fTx b.fTx) != 0 then cmp_Compare_int64_v a.fTx b.fTx else bif (cmp_Compare_int64_v a.fAt b.fAt) != 0 then cmp_Compare_int64_v a.fAt b.fAt else 0 := or_two _ _
  rw [e, compare_eq, compare_eq]
  by_cases h1 : a.fTx < b.fTx
  · simp [h1]; omega
  · by_cases h2 : b.fTx < a.fTx
    · simp [h1, h2]; omega
    · have h3 : a.fTx = b.fTx := by omega
      by_cases h4 : a.fAt < b.fAt
      · simp [h3, h4]; omega
      · by_cases h5 : b.fAt < a.fAt
        · simp [h3, h4, h5]; omega
        · have h6 : a.fAt = b.fAt := by omega
          simp [h3, h6]
theorem ahead_lex (a b : Ref) : spec_l4Ahead_v a b = true ↔ lexL a b := by
  unfold spec_l4Ahead_v lexL
  by_cases h : a.fTx = b.fTx
  · simp [h]
  · have h2 : (a.fTx != b.fTx) = true := by simp [h]
    rw [h2]; simp; omega
theorem three_ne (a : Bool) (q : Int) (b : Bool) : (bif a then some (3 : Int) else bif q != 0 then some q else bif b then some 1 else none) ≠ some 0 := by
  cases a
  · cases hq : q != 0
    · cases b <;> simp
    · simp at hq; simpa using hq
  · simp
theorem three_none {a : Bool} {q : Int} {b : Bool} (h : (bif a then some (3 : Int) else bif q != 0 then some q else bif b then some 1 else none) = none) : b = false := by
  cases a
  · cases hq : q != 0
    · rw [hq] at h; cases b
      · rfl
      · cases h
    · rw [hq] at h; cases h
  · cases h
theorem coins_step (x0 : List Coin) (hl : x0.length ≤ 1048576) (h : spec_l4Fault_v x0 = 0) : ∀ i, i + 1 < x0.length → lexL (gt x0 (i : Int)).fRef (gt x0 ((i + 1 : Nat) : Int)).fRef := by
  intro i hi
  unfold spec_l4Fault_v at h
  cases hc : decide (40 < (x0.length : Int))
  · rw [hc] at h
    obtain ⟨h1, _⟩ := onO_zero h (fun i => three_ne _ _ _)
    have h2 := three_none (fs_all h1 (i + 1) hi)
    have e : wrap64 (((i + 1 : Nat) : Int) - 1) = (i : Int) := by have := wrap64_in (((i + 1 : Nat) : Int) - 1) (by omega); rw [this]; omega
    have e2 : decide (0 < ((i + 1 : Nat) : Int)) = true := decide_eq_true (by omega)
    rw [e, e2] at h2
    rw [← ahead_lex]
    cases hq : spec_l4Ahead_v (gt x0 (i : Int)).fRef (gt x0 ((i + 1 : Nat) : Int)).fRef
    · rw [hq] at h2; cases h2
    · rfl
  · rw [hc] at h; exact absurd (show (2 : Int) = 0 from h) (by decide)
theorem lex_trans {a b c : Ref} (h : lexL a b) (k : lexL b c) : lexL a c := by unfold lexL at *; omega
theorem coins_lt (x0 : List Coin) (hl : x0.length ≤ 1048576) (h : spec_l4Fault_v x0 = 0) (a b : Nat) (hab : a < b) (hb : b < x0.length) : lexL (gt x0 (a : Int)).fRef (gt x0 (b : Int)).fRef := by
  have := risingR (R := fun a b => lexL (gt x0 (a : Int)).fRef (gt x0 (b : Int)).fRef) x0.length (fun a b c _ h k => lex_trans h k) (coins_step x0 hl h) (b - a - 1) a (by omega)
  have e : a + (b - a - 1) + 1 = b := by omega
  rw [e] at this
  exact this
/-- In a row whose refs rise: what is found. -/
theorem findCoin_rise (x0 : List Coin) (x1 : Ref) (rise : ∀ a b : Nat, a < b → b < x0.length → lexL (gt x0 (a : Int)).fRef (gt x0 (b : Int)).fRef) : spec_l4At_v x0 x1 = bif (impl_findCoin_v x0 x1).2 then (impl_findCoin_v x0 x1).1 else -1 := by
  have hc0 : ∀ i : Nat, impl_findCoin_1_v (gt x0 (i : Int)) x1 = 0 ↔ (gt x0 (i : Int)).fRef.fTx = x1.fTx ∧ (gt x0 (i : Int)).fRef.fAt = x1.fAt := fun i => compareRefs_zero _ _
  have hcl : ∀ i : Nat, impl_findCoin_1_v (gt x0 (i : Int)) x1 < 0 ↔ lexL (gt x0 (i : Int)).fRef x1 := fun i => compareRefs_lt _ _
  have key := bs_find x0.length (fun i => impl_findCoin_1_v (gt x0 (i : Int)) x1) (fun a b hab hb hlt => by
    rw [hcl] at hlt ⊢
    rcases Nat.lt_or_eq_of_le hab with h1 | h1
    · exact lex_trans (rise a b h1 hb) hlt
    · subst h1; exact hlt) (fun a b hab hb h0 => by
    rw [hc0] at h0
    rw [hcl]
    have := rise a b hab hb
    unfold lexL at *; omega) default
  have e : (fun i : Nat => bif (((gt x0 (i : Int)).fRef.fTx == x1.fTx) && ((gt x0 (i : Int)).fRef.fAt == x1.fAt)) then some (i : Int) else none) = fun i : Nat => bif impl_findCoin_1_v (gt x0 (i : Int)) x1 == 0 then some (i : Int) else none := by
    funext i
    have : (((gt x0 (i : Int)).fRef.fTx == x1.fTx) && ((gt x0 (i : Int)).fRef.fAt == x1.fAt)) = (impl_findCoin_1_v (gt x0 (i : Int)) x1 == 0) := by
      rw [Bool.eq_iff_iff, Bool.and_eq_true, beq_iff_eq, beq_iff_eq, beq_iff_eq]; exact (hc0 i).symm
    rw [this]
  show onO ((List.range' 0 (x0.length - 0)).findSome? (fun i : Nat => bif (((gt x0 (i : Int)).fRef.fTx == x1.fTx) && ((gt x0 (i : Int)).fRef.fAt == x1.fAt)) then some (i : Int) else none)) (fun r => r) (-1) = _
  rw [e, key]
  show onO (bif (impl_findCoin_v x0 x1).2 then some (impl_findCoin_v x0 x1).1 else none) _ _ = _
  cases (impl_findCoin_v x0 x1).2 <;> rfl
theorem findCoin_at (x0 : List Coin) (x1 : Ref) (hl : x0.length ≤ 1048576) (h : spec_l4Fault_v x0 = 0) : spec_l4At_v x0 x1 = bif (impl_findCoin_v x0 x1).2 then (impl_findCoin_v x0 x1).1 else -1 := findCoin_rise x0 x1 (coins_lt x0 hl h)
theorem at_shape {R : Type} (b : Bool) (i : Int) (A : R) (B : Int → R) (hi : b = true → 0 ≤ i) : (bif !b then A else B i) = (bif decide ((bif b then i else (-1)) < 0) then A else B (bif b then i else (-1))) := by
  cases b
  · rfl
  · have h := hi rfl
    have e : decide (i < 0) = false := decide_eq_false (by omega)
    show B i = bif decide (i < 0) then A else B i
    rw [e]; rfl
def Rise (xs : List Coin) : Prop := xs.length ≤ 1048576 ∧ xs.Pairwise fun a b => lexL a.fRef b.fRef
theorem Rise.lt {xs : List Coin} (h : Rise xs) (a b : Nat) (hab : a < b) (hb : b < xs.length) : lexL (gt xs (a : Int)).fRef (gt xs (b : Int)).fRef := by
  rw [gt_eq (by simp; omega), gt_eq (by simpa using hb)]
  exact (List.pairwise_iff_getElem.1 h.2) _ _ _ _ (by simpa using hab)
theorem Rise.of {xs : List Coin} (hl : xs.length ≤ 1048576) (h : ∀ a b : Nat, a < b → b < xs.length → lexL (gt xs (a : Int)).fRef (gt xs (b : Int)).fRef) : Rise xs := by
  refine ⟨hl, List.pairwise_iff_getElem.2 fun i j hi hj hij => ?_⟩
  have := h i j hij hj
  rw [gt_eq (by simpa using hi), gt_eq (by simpa using hj)] at this
  simpa using this
theorem Rise.sub {xs ys : List Coin} (h : Rise xs) (s : ys.Sublist xs) : Rise ys := ⟨Nat.le_trans s.length_le h.1, h.2.sublist s⟩
theorem takeG_same (s : List Coin) (r : Ref) (h : Rise s) : takeG2 s r = takeG1 s r := by
  unfold takeG2 takeG1
  rw [findCoin_rise s r h.lt]
  have hin := findCoin_in s r
  have hl := h.1
  generalize impl_findCoin_v s r = q at hin ⊢
  have e : (bif !q.2 then none else some (slices_Delete_impl_Coin_v s q.1 (wrap64 (q.1 + 1)))) = (bif !q.2 then none else some (s.take q.1.toNat ++ s.drop (wrap64 (q.1 + 1)).toNat)) := by
    cases hb : q.2
    · simp only [Bool.not_false, cond_true]
    · have h3 := hin (by rw [hb]; rfl)
      have h4 := idx_lo h3
      have h5 := idx_hi h3
      have ew : wrap64 (q.1 + 1) = q.1 + 1 := wrap64_in _ (by omega)
      have e2 : (q.1 == q.1 + 1) = false := by simp; omega
      rw [ew]
      unfold slices_Delete_impl_Coin_v
      rw [e2]
      simp only [Bool.not_true, cond_false]
  rw [e]
  exact at_shape q.2 q.1 none (fun t => some (s.take t.toNat ++ s.drop (wrap64 (t + 1)).toNat)) (fun hb => idx_lo (hin (by rw [hb]; rfl)))
theorem takeG2_sub (s : List Coin) (r : Ref) (t : List Coin) (hs : Rise s) (h : takeG2 s r = some t) : Rise t := by
  unfold takeG2 at h
  cases hc : !(impl_findCoin_v s r).2
  · rw [hc] at h
    have h2 : slices_Delete_impl_Coin_v s (impl_findCoin_v s r).1 (wrap64 ((impl_findCoin_v s r).1 + 1)) = t := Option.some.inj h
    subst h2
    have h3 := findCoin_in s r hc
    unfold slices_Delete_impl_Coin_v
    cases (impl_findCoin_v s r).1 == wrap64 ((impl_findCoin_v s r).1 + 1)
    · exact hs.sub (cut_sub s (cut_hi (cut_self h3 hs.1)))
    · exact hs
  · rw [hc] at h; cases h
theorem smr_FnExactTakeCoins (x0 : List Coin) (h0 : Lm smCoin x0) (o0 : Lok okCoin x0) (x1 : List Ref) (h1 : Lm smRef x1) (o1 : Lok okRef x1) : smCoinsResult (spec_TakeCoins_v x0 x1) := by
  have hl : ∀ (a : Int), smCoinsResult ⟨a, ([] : List Coin)⟩ := fun a => ⟨trivial, by simp, fun x hx => by cases hx⟩
  unfold spec_TakeCoins_v
  cases (spec_l4Fault_v x0) != 0
  · cases decide (4 < (x1.length : Int))
    · have h2 : Lm smCoin (spec_l4Take_v x0 x1).1 := by
        unfold spec_l4Take_v
        cases hs : stepAll takeG1 (spec_l4Copy_v x0) x1 with
        | none => exact ⟨by simp, fun x hx => by cases hx⟩
        | some t => exact stepAll_pres (I := Lm smCoin) (fun s r t hs h => Lm_sub hs (takeG1_pres s r t hs h)) x1 _ t (by rw [l4Copy_id]; exact h0) hs
      cases !(spec_l4Take_v x0 x1).2
      · exact ⟨trivial, h2⟩
      · exact hl _
    · exact hl _
  · exact hl _
theorem same_FnExactTakeCoins (x0 : List Coin) (h0 : Lm smCoin x0) (o0 : Lok okCoin x0) (x1 : List Ref) (h1 : Lm smRef x1) (o1 : Lok okRef x1) : impl_TakeCoins_v x0 x1 = spec_TakeCoins_v x0 x1 := by
  unfold impl_TakeCoins_v spec_TakeCoins_v
  rw [coinsFault_same]
  cases hf : (spec_l4Fault_v x0) != 0
  · have h : spec_l4Fault_v x0 = 0 := by simpa using hf
    simp only [cond_false]
    cases decide (4 < (x1.length : Int))
    · simp only [cond_false]
      have hr : Rise x0 := Rise.of h0.1 (coins_lt x0 h0.1 h)
      have e := stepAll_same (g := takeG2) (g' := takeG1) (I := Rise) takeG2_sub takeG_same x1 x0 hr
      unfold impl_takeCoins_v spec_l4Take_v
      rw [ownCoins_id, l4Copy_id, e]
      cases stepAll takeG1 x0 x1 with
      | none => rfl
      | some t => rfl
    · simp only [cond_true]
  · simp only [cond_true]
end Go.Proofs.Ytigojhglkilodaa.Zk
namespace Go.Proofs.Ytigojhglkilodaa.Pure
open Go Go.Proofs.Ytigojhglkilodaa.Zk
theorem FnExactTakeCoins (x0 : List Zk.Coin) (x1 : List Zk.Ref) (o_x0 : (Lok okCoin) x0) (o_x1 : (Lok okRef) x1) : ∃ k, laws_FnExactTakeCoins.f k x0 x1 = some true := by
  refine Evt.get ?_
  obtain ⟨t0, e0, l0, s0⟩ := szCoinS_ev x0 o_x0 1048576 (by omega) (by omega)
  by_cases c0 : t0 < 0
  · exact Evt.bind e0 (Evt.t (by simpa using c0) (Evt.self _))
  refine Evt.bind e0 (Evt.f (by simpa using c0) ?_)
  have m0 := s0 (by omega)
  obtain ⟨t1, e1, l1, s1⟩ := szRefS_ev x1 o_x1 t0 (by omega) (by omega)
  by_cases c1 : t1 < 0
  · exact Evt.bind e1 (Evt.t (by simpa using c1) (Evt.self _))
  refine Evt.bind e1 (Evt.f (by simpa using c1) ?_)
  have m1 := s1 (by omega)
  refine Evt.bind (toCoinS_ev x0 (m0)) ?_
  refine Evt.bind (toRefS_ev x1 (m1)) ?_
  refine Evt.bind (spec_TakeCoins_ev x0 x1 (m0) (m1)) ?_
  refine Evt.bind (toCoinS_ev x0 (m0)) ?_
  refine Evt.bind (toRefS_ev x1 (m1)) ?_
  refine Evt.bind ((impl_TakeCoins_ev x0 x1 (m0) (m1)).to (same_FnExactTakeCoins x0 (m0) o_x0 x1 (m1) o_x1)) ?_
  refine Evt.bind (eqCoinsResult_ev _ (smr_FnExactTakeCoins x0 (m0) o_x0 x1 (m1) o_x1)) (Evt.f rfl ?_)
  refine Evt.bind (toCoinS_ev x0 (m0)) ?_
  refine Evt.bind (eqCoinS_ev _ (m0)) (Evt.f rfl ?_)
  refine Evt.bind (toRefS_ev x1 (m1)) ?_
  refine Evt.bind (eqRefS_ev _ (m1)) (Evt.f rfl ?_)
  obtain ⟨y2_0, t2, l2, u2, e2, g2⟩ := markCoinS_mh x0 m0 1 (by omega) (by omega)
  refine Evt.bind e2 ?_
  dsimp only
  obtain ⟨y3_0, t3, l3, u3, e3⟩ := markRefS_mh x1 m1 (t2, y2_0).1 (by omega) (by omega)
  refine Evt.bind e3 ?_
  dsimp only
  refine Evt.bind (Evt.t (by simp; omega) (eqCoinsResult_ev _ (smr_FnExactTakeCoins x0 (m0) o_x0 x1 (m1) o_x1))) (Evt.f (by simp; omega) ?_)
  obtain ⟨y4_0, t4, l4, u4, e4, g4⟩ := markCoinsResult_mh (spec_TakeCoins_v x0 x1) (smr_FnExactTakeCoins x0 (m0) o_x0 x1 (m1) o_x1) 1 (by omega) (by omega)
  refine Evt.bind e4 ?_
  dsimp only
  refine Evt.bind g4 ?_
  refine Evt.f (by simp; try omega) ?_
  refine Evt.f (by simp; try omega) ?_
  refine Evt.bind (toCoinS_ev x0 (m0)) ?_
  refine Evt.bind (toRefS_ev x1 (m1)) ?_
  refine Evt.bind ((impl_TakeCoins_ev x0 x1 (m0) (m1)).to (same_FnExactTakeCoins x0 (m0) o_x0 x1 (m1) o_x1)) ?_
  refine Evt.bind (eqCoinsResult_ev _ (smr_FnExactTakeCoins x0 (m0) o_x0 x1 (m1) o_x1)) (Evt.f rfl ?_)
  refine Evt.bind g4 ?_
  refine Evt.f (by simp; try omega) ?_
  refine Evt.f (by simp; try omega) ?_
  exact Evt.self _
end Go.Proofs.Ytigojhglkilodaa.Pure
