/- The plain law of FnExactPutCoins: what the program's function and the reference's compute is the same. No condition. -/
import Derived.Test.YtbbcabpnkdilgaaZkPure
import Derived.Test.YtbbcabpnkdilgaaPutCoinsZkOpn
import Derived.Test.YtbbcabpnkdilgaaPutCoinsZkF7
namespace Go.Proofs.Ytbbcabpnkdilgaa.Zk
open Go Go.RowKit Go.IntWalk
set_option linter.unusedVariables false
set_option linter.unusedSimpArgs false

def szL (n : Nat) (l : Int) : Int := bif decide (wrap64 (l - n) < 0) then -1 else wrap64 (l - n)
theorem szL_ok {n : Nat} {l : Int} (h : decide (szL n l < 0) = false) (h0 : 0 ≤ l) (h1 : l ≤ 1048576) (hn : n ≤ maxLen) : (n : Int) ≤ l ∧ szL n l = l - n := by
  unfold szL at *
  have hn' : n ≤ 9223372036854775807 := by simpa [maxLen] using hn
  have e : wrap64 (l - n) = l - n := by unfold wrap64; omega
  rw [e] at h ⊢
  by_cases hc : l - (n : Int) < 0
  · rw [decide_eq_true hc] at h; cases h
  · rw [decide_eq_false hc]; exact ⟨by omega, rfl⟩
theorem szL_le {n : Nat} {l : Int} (h0 : 0 ≤ l) (h1 : l ≤ 1048576) (hn : n ≤ maxLen) : szL n l ≤ l := by
  unfold szL
  have hn' : n ≤ 9223372036854775807 := by simpa [maxLen] using hn
  have e : wrap64 (l - n) = l - n := by unfold wrap64; omega
  rw [e]
  by_cases hc : l - (n : Int) < 0
  · rw [decide_eq_true hc]; show (-1 : Int) ≤ l; omega
  · rw [decide_eq_false hc]; show l - (n : Int) ≤ l; omega
theorem nn {l : Int} (h : decide (l < 0) = false) : 0 ≤ l := by simpa using h
abbrev tr {α : Type} (x : α) : Prop := True
def Lm {α : Type} (sm : α → Prop) (xs : List α) : Prop := xs.length ≤ 1048576 ∧ ∀ x ∈ xs, sm x
theorem gt_mem {α : Type} [Inhabited α] {xs : List α} {i : Nat} (h : i < xs.length) : gt xs (i : Int) ∈ xs := by
  rw [gt_eq (i := (i : Int)) (by simpa using h)]
  exact List.getElem_mem _
/-- Sizes, added up. -/
theorem Evt.szl {α : Type} [Inhabited α] {L : Nat → Int → Int → Option (Int ⊕ Int)} {sm : α → Prop} (xs : List α) (hn : xs.length ≤ 9223372036854775807)
    (step : ∀ i, i < xs.length → ∀ left, 0 ≤ left → left ≤ 1048576 → ∃ t, t ≤ left ∧ (0 ≤ t → sm (gt xs (i : Int))) ∧ (t < 0 → Evt (fun k => L k left (i : Int)) (.inl (-1))) ∧ ∀ o, 0 ≤ t → Evt (fun k => L k t (wrap64 ((i : Int) + 1))) o → Evt (fun k => L k left (i : Int)) o)
    (done : ∀ left, Evt (fun k => L k left (xs.length : Int)) (.inr left)) (l : Int) (h0 : 0 ≤ l) (h1 : l ≤ 1048576) :
    ∃ o, Evt (fun k => L k l 0) o ∧ match o with | .inl r => r = -1 | .inr t => 0 ≤ t ∧ t ≤ l ∧ ∀ x ∈ xs, sm x := by
  have key : ∀ d i l, i + d = xs.length → 0 ≤ l → l ≤ 1048576 → ∃ o, Evt (fun k => L k l (i : Int)) o ∧ match o with | .inl r => r = -1 | .inr t => 0 ≤ t ∧ t ≤ l ∧ ∀ j, i ≤ j → j < xs.length → sm (gt xs (j : Int)) := by
    intro d
    induction d with
    | zero =>
      intro i l hi h0 h1
      have e : i = xs.length := by omega
      subst e
      exact ⟨_, done l, h0, by omega, fun j h2 h3 => by omega⟩
    | succ d ih =>
      intro i l hi h0 h1
      obtain ⟨t, a1, a2, a3, a4⟩ := step i (by omega) l h0 h1
      by_cases c : t < 0
      · exact ⟨_, a3 c, rfl⟩
      · obtain ⟨o, b1, b2⟩ := ih (i + 1) t (by omega) (by omega) (by omega)
        refine ⟨o, a4 o (by omega) (by rw [w64 (by omega : i < xs.length) hn]; exact b1), ?_⟩
        cases o with
        | inl r => exact b2
        | inr u =>
          refine ⟨b2.1, by have := b2.2.1; omega, fun j h2 h3 => ?_⟩
          by_cases e : j = i
          · subst e; exact a2 (by omega)
          · exact b2.2.2 j (by omega) h3
  obtain ⟨o, b1, b2⟩ := key xs.length 0 l (by omega) h0 h1
  refine ⟨o, b1, ?_⟩
  cases o with
  | inl r => exact b2
  | inr u =>
    refine ⟨b2.1, b2.2.1, fun x hx => ?_⟩
    obtain ⟨j, hj, e⟩ := List.getElem_of_mem hx
    have := b2.2.2 j (by omega) hj
    rw [gt_eq (i := (j : Int)) (by simpa using hj)] at this
    simpa [e] using this

theorem Evt_t2 {β : Type} {f g nxt : Nat → Option (β ⊕ Unit)} {c : Bool} {v : Option β} (hc : c = true) (h : StE f nxt v) : StE (fun n => bif c then f n else g n) nxt v := by subst hc; exact h
theorem Lm_take {α : Type} {sm : α → Prop} {xs : List α} {n : Nat} (h : Lm sm xs) : Lm sm (xs.take n) := ⟨by have := h.1; rw [List.length_take]; omega, fun x hx => h.2 x (List.mem_of_mem_take hx)⟩
theorem Lm_drop {α : Type} {sm : α → Prop} {xs : List α} {n : Nat} (h : Lm sm xs) : Lm sm (xs.drop n) := ⟨by have := h.1; rw [List.length_drop]; omega, fun x hx => h.2 x (List.mem_of_mem_drop hx)⟩
/-! searches, told by 'any' -/
theorem found_any {β γ : Type} (l : List Nat) (p : Nat → Bool) (a : β) (r : β → γ) (c : γ) : onO (l.findSome? fun i => bif p i then some a else none) r c = bif l.any p then r a else c := by
  induction l with
  | nil => rfl
  | cons i l ih =>
    rw [List.findSome?_cons, List.any_cons]
    cases p i
    · simpa using ih
    · rfl
theorem idx_any (l : List Nat) (p : Nat → Bool) : decide (0 ≤ onO (l.findSome? fun i => bif p i then some (i : Int) else none) (fun r => r) (-1)) = l.any p := by
  induction l with
  | nil => rfl
  | cons i l ih =>
    rw [List.findSome?_cons, List.any_cons]
    cases p i
    · simpa using ih
    · simp [onO]
theorem band1 {c d e : Bool} : (c && (bif c then d else e)) = (c && d) := by cases c <;> rfl
theorem bor1 {c d e : Bool} : (c || (bif !c then d else e)) = (c || d) := by cases c <;> rfl
theorem bnn1 {c d e : Bool} : ((!c) || (!(bif (!(!c)) then d else e))) = ((!c) || (!d)) := by cases c <;> rfl
theorem bnn2 {c d : Bool} : ((!c) || (!d)) = !(c && d) := by cases c <;> rfl
theorem bnn3 {c d e : Bool} : ((!c) || (!(bif !(!c) then d else e))) = !(c && d) := by cases c <;> rfl
theorem bn_n {c d e : Bool} : (!c || !(bif c then d else e)) = !(c && d) := by cases c <;> rfl
theorem rng1 {a lo hi : Int} : (decide (a < lo) || decide (hi < a)) = !(decide (lo ≤ a) && decide (a ≤ hi)) := by
  by_cases h1 : a < lo
  · have : ¬ lo ≤ a := by omega
    simp [h1, this]
  · have h2 : lo ≤ a := by omega
    by_cases h3 : hi < a
    · have : ¬ a ≤ hi := by omega
      simp [h1, h2, h3, this]
    · have : a ≤ hi := by omega
      simp [h1, h2, h3, this]
theorem at_any (l : List Nat) (p : Nat → Bool) (h : ∀ i ∈ l, i < 4611686018427387904) : decide (0 < onO (l.findSome? fun i => bif p i then some (wrap64 ((i : Int) + 1)) else none) (fun r => r) 0) = l.any p := by
  induction l with
  | nil => rfl
  | cons i l ih =>
    rw [List.findSome?_cons, List.any_cons]
    have hi := h i (by simp)
    have hl : ∀ j ∈ l, j < 4611686018427387904 := fun j hj => h j (List.mem_cons_of_mem _ hj)
    clear h
    cases p i
    · exact ih hl
    · have e : wrap64 ((i : Int) + 1) = (i : Int) + 1 := by unfold wrap64; omega
      rw [e]
      show decide (0 < (i : Int) + 1) = true
      exact decide_eq_true (by omega)
theorem fs_congr {β : Type} {l : List Nat} {f g : Nat → Option β} (h : ∀ i ∈ l, f i = g i) : l.findSome? f = l.findSome? g := by
  induction l with
  | nil => rfl
  | cons i l ih => rw [List.findSome?_cons, List.findSome?_cons, h i (by simp), ih fun j hj => h j (by simp [hj])]
theorem any_congr' {l : List Nat} {f g : Nat → Bool} (h : ∀ i ∈ l, f i = g i) : l.any f = l.any g := by
  induction l with
  | nil => rfl
  | cons i l ih => rw [List.any_cons, List.any_cons, h i (by simp), ih fun j hj => h j (by simp [hj])]
theorem in_range {i n : Nat} (h : i ∈ List.range' 0 (n - 0)) : i < n := by
  have := List.mem_range'_1.1 h
  omega
theorem gt_take {α : Type} [Inhabited α] {xs : List α} {n j : Nat} (h : j < n) : gt (xs.take n) (j : Int) = gt xs (j : Int) := by
  unfold gt
  have e : ((j : Int)).toNat = j := by simp
  rw [e, List.getD_eq_getElem?_getD, List.getD_eq_getElem?_getD, List.getElem?_take, if_pos h]
theorem any_take {α : Type} [Inhabited α] {xs : List α} {i : Nat} (h : i ≤ xs.length) (p : α → Bool) :
    (List.range' 0 ((xs.take i).length - 0)).any (fun j => p (gt (xs.take i) (j : Int))) = (List.range' 0 (i - 0)).any (fun j => p (gt xs (j : Int))) := by
  have e : (xs.take i).length = i := by rw [List.length_take]; omega
  rw [e]
  exact any_congr' fun j hj => by rw [gt_take (in_range hj)]
theorem sEq_comm (a b : ByteArray) : sEq a b = sEq b a := by unfold sEq; exact BEq.comm
theorem bifb {b : Bool} : (bif b then true else false) = b := by cases b <;> rfl
theorem idx_found {n : Nat} {p : Nat → Bool} (h : 0 ≤ onO ((List.range' 0 (n - 0)).findSome? fun i => bif p i then some (i : Int) else none) (fun r => r) (-1)) : idxOk (onO ((List.range' 0 (n - 0)).findSome? fun i => bif p i then some (i : Int) else none) (fun r => r) (-1)) n = true := by
  have key : ∀ l : List Nat, (∀ i ∈ l, i < n) → 0 ≤ onO (l.findSome? fun i => bif p i then some (i : Int) else none) (fun r => r) (-1) → idxOk (onO (l.findSome? fun i => bif p i then some (i : Int) else none) (fun r => r) (-1)) n = true := by
    intro l
    induction l with
    | nil => intro _ h; exact absurd h (by show ¬ (0 : Int) ≤ -1; omega)
    | cons i l ih =>
      intro hl h
      rw [List.findSome?_cons] at h ⊢
      cases hp : p i
      · rw [hp] at h; exact ih (fun j hj => hl j (List.mem_cons_of_mem _ hj)) h
      · exact idx_ok (hl i (List.mem_cons_self ..))
  exact key _ (fun i hi => in_range hi) h
theorem cut_ok {i n : Nat} (h : i ≤ n) : cutOk (i : Int) n = true := by unfold cutOk; simp; omega
theorem len_eq {a b : Nat} (h : ((a : Int) != (b : Int)) = false) : a = b := by
  by_cases e : a = b
  · exact e
  · have : ((a : Int) != (b : Int)) = true := by simp; omega
    rw [this] at h; cases h

abbrev smRef (x : Ref) : Prop := tr x.fTx ∧ tr x.fAt
abbrev smRule (x : Rule) : Prop := (Lm tr) x.fKeys ∧ tr x.fNeed ∧ tr x.fAfter
abbrev smOut (x : Out) : Prop := tr x.fValue ∧ smRule x.fRule
abbrev smCoin (x : Coin) : Prop := smRef x.fRef ∧ smOut x.fOut ∧ tr x.fHeight ∧ tr x.fMined
abbrev smCoinsResult (x : CoinsResult) : Prop := tr x.fCode ∧ (Lm smCoin) x.fCoins
/-! ### Rows marked, and held so -/
theorem chkT {α : Type} (t : Option α) : Zk.chk true t = t := rfl
theorem gt_set {α : Type} [Inhabited α] {xs : List α} {i : Nat} (h : i < xs.length) (a : α) : gt (xs.set i a) (i : Int) = a := by
  rw [gt_eq (by simpa using h)]; simp
theorem mark_held {α : Type} [Inhabited α] (L : Nat → List α → Int → Int → Option (List α × Int)) (H : List α → Nat → Int → Int → Option (Int ⊕ Int)) (B : Prop) (c : Int) (hc : 0 ≤ c) (p : α → Prop)
    (step : ∀ (acc : List α) (s : Int) (i : Nat), i < acc.length → p (gt acc (i : Int)) → 1 ≤ s → s + c ≤ 4611686018427387904 → ∃ y t, s ≤ t ∧ t ≤ s + c ∧ (∀ r, Evt (fun k => L k (acc.set i y) t (wrap64 ((i : Int) + 1))) r → Evt (fun k => L (k + 1) acc s (i : Int)) r) ∧
      (B → ∀ ys : List α, i < ys.length → gt ys (i : Int) = y → ∀ r, Evt (fun k => H ys k t (wrap64 ((i : Int) + 1))) r → Evt (fun k => H ys (k + 1) s (i : Int)) r))
    (doneL : ∀ (acc : List α) (s : Int), Evt (fun k => L (k + 1) acc s (acc.length : Int)) (acc, s)) (doneH : B → ∀ (ys : List α) (s : Int), Evt (fun k => H ys (k + 1) s (ys.length : Int)) (.inr s))
    (xs : List α) (hn : xs.length ≤ 9223372036854775807) (hp : ∀ x ∈ xs, p x) (s : Int) (h1 : 1 ≤ s) (h2 : s + xs.length * c ≤ 4611686018427387904) :
    ∃ ys t, ys.length = xs.length ∧ s ≤ t ∧ t ≤ s + xs.length * c ∧ Evt (fun k => L k xs s 0) (ys, t) ∧ (B → Evt (fun k => H ys k s 0) (.inr t)) := by
  have key : ∀ (d i : Nat) (acc : List α) (s : Int), i + d = xs.length → acc.length = xs.length → (∀ j, i ≤ j → acc[j]? = xs[j]?) → 1 ≤ s → s + d * c ≤ 4611686018427387904 →
      ∃ ys t, ys.length = xs.length ∧ (∀ j, j < i → ys[j]? = acc[j]?) ∧ s ≤ t ∧ t ≤ s + d * c ∧ Evt (fun k => L k acc s (i : Int)) (ys, t) ∧ (B → Evt (fun k => H ys k s (i : Int)) (.inr t)) := by
    intro d
    induction d with
    | zero =>
      intro i acc s hi hl _ h1 h2
      have e : (i : Int) = (acc.length : Int) := by omega
      exact ⟨acc, s, hl, fun _ _ => rfl, by omega, by omega, by rw [e]; exact Evt.s (doneL acc s), fun hB => by rw [e]; exact Evt.s (doneH hB acc s)⟩
    | succ d ih =>
      intro i acc s hi hl hj h1 h2
      have e : ((d + 1 : Nat) : Int) * c = d * c + c := by rw [Int.natCast_add, Int.add_mul]; simp
      have hdc : 0 ≤ (d : Int) * c := Int.mul_nonneg (by omega) hc
      rw [e] at h2
      have hlt : i < acc.length := by omega
      have hpx : p (gt acc (i : Int)) := by
        rw [gt_eq (by simpa using hlt)]
        have h5 := hj i (Nat.le_refl _)
        rw [List.getElem?_eq_getElem hlt] at h5
        exact hp _ (List.mem_of_getElem? h5.symm)
      obtain ⟨y, t1, a1, a2, a3, a4⟩ := step acc s i hlt hpx h1 (by omega)
      obtain ⟨ys, t, b1, b2, b3, b4, b5, b6⟩ := ih (i + 1) (acc.set i y) t1 (by omega) (by simp [hl]) (fun j hj' => by rw [List.getElem?_set_ne (by omega)]; exact hj j (by omega)) (by omega) (by omega)
      have hy : gt ys (i : Int) = y := by
        have h6 := b2 i (by omega)
        rw [List.getElem?_set_self hlt] at h6
        rw [gt_eq (by simp; omega)]
        have h7 : i < ys.length := by omega
        rw [List.getElem?_eq_getElem h7] at h6
        simpa using h6
      refine ⟨ys, t, b1, fun j hj' => ?_, by omega, by rw [e]; omega, Evt.s (a3 _ ?_), fun hB => Evt.s (a4 hB ys (by omega) hy _ ?_)⟩
      · rw [b2 j (by omega), List.getElem?_set_ne (by omega)]
      · rw [w64 (by omega : i < xs.length) hn]; exact b5
      · rw [w64 (by omega : i < xs.length) hn]; exact b6 hB
  obtain ⟨ys, t, a1, _, a3, a4, a5, a6⟩ := key xs.length 0 xs s (by omega) rfl (fun _ _ => rfl) h1 h2
  exact ⟨ys, t, a1, a3, a4, a5, a6⟩
/-! ### What is gathered in a row -/
theorem len_bif {α : Type} {c : Bool} {a b : List α} {n : Nat} (h : a.length ≤ n) (k : b.length ≤ n) : (bif c then a else b).length ≤ n := by cases c; exact k; exact h
theorem Evt.gatherL {σ : Type} {L : Nat → List σ → Int → Option (List σ)} (n : Nat) (hn : n ≤ 1048576) (st : List σ → Nat → List σ)
    (len : ∀ i, i < n → ∀ a, a.length ≤ i → (st a i).length ≤ i + 1)
    (step : ∀ i, i < n → ∀ a, a.length ≤ i → ∀ o, Evt (fun k => L k (st a i) (wrap64 ((i : Int) + 1))) o → Evt (fun k => L (k + 1) a (i : Int)) o)
    (done : ∀ (i : Nat) a, n ≤ i → Evt (fun k => L (k + 1) a (i : Int)) a) : Evt (fun k => L k [] 0) ((List.range' 0 (n - 0)).foldl st []) := by
  have key : ∀ d i (a : List σ), (i + d = n ∨ n ≤ i ∧ d = 0) → a.length ≤ i → Evt (fun k => L k a (i : Int)) ((List.range' i d).foldl st a) := by
    intro d
    induction d with
    | zero => intro i a hi _; exact Evt.s (done i a (by omega))
    | succ d ih =>
      intro i a hi ha
      rw [List.range'_succ, List.foldl_cons]
      refine Evt.s (step i (by omega) a ha _ ?_)
      rw [w64 (by omega : i < n) (by omega)]
      exact ih (i + 1) (st a i) (by omega) (len i (by omega) a ha)
  exact key (n - 0) 0 [] (by omega) (by simp)
theorem fold_len {σ : Type} (st : List σ → Nat → List σ) (h : ∀ a i, (st a i).length ≤ a.length + 1) : ∀ (l : List Nat) (a : List σ), (l.foldl st a).length ≤ a.length + l.length
  | [], a => by simp
  | i :: l, a => by
    have h1 := fold_len st h l (st a i)
    have h2 := h a i
    simp only [List.foldl_cons, List.length_cons]; omega
theorem fold_len0 {σ : Type} (st : List σ → Nat → List σ) (h : ∀ a i, (st a i).length ≤ a.length + 1) (n : Nat) : ((List.range' 0 (n - 0)).foldl st []).length ≤ n := by
  have := fold_len st h (List.range' 0 (n - 0)) []
  simpa using this
theorem cut_next {t : Int} {n : Nat} (h : idxOk t n = true) (hn : n ≤ 1048576) : cutOk (wrap64 (t + 1)) n = true := by
  have h1 := idx_lo h
  have h2 := idx_hi h
  rw [wrap64_in _ (by omega)]
  unfold cutOk; simp; omega
theorem cut_self {t : Int} {n : Nat} (h : idxOk t n = true) (hn : n ≤ 1048576) : cutOk t (wrap64 (t + 1)).toNat = true := by
  have h1 := idx_lo h
  have h2 := idx_hi h
  rw [wrap64_in _ (by omega)]
  unfold cutOk; simp; omega
theorem Lm_gath {α : Type} [Inhabited α] {sm : α → Prop} (x0 : List α) (h : Lm sm x0) (c : Nat → Bool) : Lm sm ((List.range' 0 (x0.length - 0)).foldl (fun ac (i : Nat) => bif c i then ac ++ ([gt x0 (i : Int)] : List α) else ac) ([] : List α)) := by
  have key : ∀ d i (a : List α), i + d = x0.length → (∀ x ∈ a, sm x) → a.length ≤ i → (∀ x ∈ (List.range' i d).foldl (fun ac (i : Nat) => bif c i then ac ++ ([gt x0 (i : Int)] : List α) else ac) a, sm x) ∧ ((List.range' i d).foldl (fun ac (i : Nat) => bif c i then ac ++ ([gt x0 (i : Int)] : List α) else ac) a).length ≤ x0.length := by
    intro d
    induction d with
    | zero => intro i a hi ha hl; exact ⟨ha, by show a.length ≤ _; omega⟩
    | succ d ih =>
      intro i a hi ha hl
      rw [List.range'_succ, List.foldl_cons]
      refine ih (i + 1) _ (by omega) ?_ ?_
      · cases c i
        · exact ha
        · intro x hx
          rw [cond_true, List.mem_append] at hx
          rcases hx with hx | hx
          · exact ha x hx
          · rw [List.mem_singleton] at hx; subst hx; exact h.2 _ (gt_mem (by omega))
      · cases c i
        · show a.length ≤ i + 1; omega
        · simp; omega
  obtain ⟨h1, h2⟩ := key x0.length 0 [] (by omega) (fun x hx => by cases hx) (by simp)
  exact ⟨Nat.le_trans h2 h.1, h1⟩
/-! ### A loop over a row, with a state that turns, or an early end -/
def stepAll {σ τ : Type} (g : σ → τ → Option σ) : σ → List τ → Option σ
  | s, [] => some s
  | s, r :: rs => match g s r with
    | none => none
    | some t => stepAll g t rs
theorem Evt.steps {σ τ β : Type} [Inhabited τ] {L : Nat → σ → Int → Option (β ⊕ σ)} (rs : List τ) (hn : rs.length ≤ 9223372036854775807) (I : σ → Prop) (g : σ → τ → Option σ) (bad : β)
    (step : ∀ i, i < rs.length → ∀ s, I s → ∀ o, (∀ t, g s (gt rs (i : Int)) = some t → Evt (fun k => L k t (wrap64 ((i : Int) + 1))) o) → (g s (gt rs (i : Int)) = none → o = .inl bad) → Evt (fun k => L (k + 1) s (i : Int)) o)
    (pres : ∀ s r t, I s → g s r = some t → I t) (done : ∀ s, Evt (fun k => L (k + 1) s (rs.length : Int)) (.inr s)) (s : σ) (hs : I s) :
    Evt (fun k => L k s 0) (match stepAll g s rs with | some t => .inr t | none => .inl bad) := by
  have key : ∀ d i s, i + d = rs.length → I s → Evt (fun k => L k s (i : Int)) (match stepAll g s (rs.drop i) with | some t => .inr t | none => .inl bad) := by
    intro d
    induction d with
    | zero =>
      intro i s hi hs
      rw [List.drop_of_length_le (by omega)]
      have e : i = rs.length := by omega
      subst e
      exact Evt.s (done s)
    | succ d ih =>
      intro i s hi hs
      have hlt : i < rs.length := by omega
      rw [List.drop_eq_getElem_cons hlt]
      have hg : gt rs (i : Int) = rs[i] := gt_eq (by simpa using hlt)
      refine Evt.s (step i hlt s hs _ (fun t ht => ?_) (fun ht => ?_))
      · rw [hg] at ht
        rw [w64 hlt hn]
        have := ih (i + 1) t (by omega) (pres _ _ _ hs ht)
        simp only [stepAll, ht]
        exact this
      · rw [hg] at ht
        simp only [stepAll, ht]
  exact key rs.length 0 s (by omega) hs
theorem stepAll_pres {σ τ : Type} {g : σ → τ → Option σ} {I : σ → Prop} (pres : ∀ s r t, I s → g s r = some t → I t) : ∀ (rs : List τ) (s t : σ), I s → stepAll g s rs = some t → I t
  | [], s, t, hs, h => by cases h; exact hs
  | r :: rs, s, t, hs, h => by
    simp only [stepAll] at h
    cases hg : g s r with
    | none => rw [hg] at h; cases h
    | some u => rw [hg] at h; exact stepAll_pres pres rs u t (pres _ _ _ hs hg) h
theorem stepAll_same {σ τ : Type} {g g' : σ → τ → Option σ} {I : σ → Prop} (pres : ∀ s r t, I s → g s r = some t → I t) (same : ∀ s r, I s → g s r = g' s r) : ∀ (rs : List τ) (s : σ), I s → stepAll g s rs = stepAll g' s rs
  | [], s, _ => rfl
  | r :: rs, s, hs => by
    simp only [stepAll]
    rw [← same s r hs]
    cases hg : g s r with
    | none => rfl
    | some u => exact stepAll_same pres same rs u (pres _ _ _ hs hg)
theorem Lm_sub {α : Type} {sm : α → Prop} {xs ys : List α} (h : Lm sm xs) (s : ys.Sublist xs) : Lm sm ys := ⟨Nat.le_trans s.length_le h.1, fun x hx => h.2 x (s.subset hx)⟩
theorem cut_sub {α : Type} (xs : List α) {a b : Nat} (h : a ≤ b) : (xs.take a ++ xs.drop b).Sublist xs := by
  have h1 : (xs.take a ++ xs.drop b).Sublist (xs.take a ++ xs.drop a) := List.Sublist.append (.refl _) (by
    have e : xs.drop b = (xs.drop a).drop (b - a) := by rw [List.drop_drop]; congr 1; omega
    rw [e]; exact List.drop_sublist _ _)
  rw [List.take_append_drop] at h1
  exact h1
theorem fs_all {β : Type} {p : Nat → Option β} {n : Nat} (h : (List.range' 0 (n - 0)).findSome? p = none) : ∀ i, i < n → p i = none := by
  intro i hi
  rw [List.findSome?_eq_none_iff] at h
  exact h i (by rw [List.mem_range']; exact ⟨i, by omega, by omega⟩)
theorem onO_zero {l : List Nat} {p : Nat → Option Int} {c : Int} (h : onO (l.findSome? p) (fun r => r) c = 0) (hp : ∀ i, p i ≠ some 0) : l.findSome? p = none ∧ c = 0 := by
  cases hf : l.findSome? p with
  | none => rw [hf] at h; exact ⟨rfl, h⟩
  | some r =>
    rw [hf] at h
    obtain ⟨i, _, hi⟩ := List.exists_of_findSome?_eq_some hf
    have : r = 0 := h
    subst this
    exact absurd hi (hp i)
/-! ### A loop over a row, as a fold over it -/
theorem range_foldl {α β : Type} [Inhabited α] (xs : List α) (f : β → α → β) (a : β) : (List.range' 0 (xs.length - 0)).foldl (fun ac (i : Nat) => f ac (gt xs (i : Int))) a = xs.foldl f a := by
  have key : ∀ d i a, i + d = xs.length → (List.range' i d).foldl (fun ac (i : Nat) => f ac (gt xs (i : Int))) a = (xs.drop i).foldl f a := by
    intro d
    induction d with
    | zero => intro i a h; rw [List.drop_eq_nil_of_le (by omega)]; rfl
    | succ d ih =>
      intro i a h
      have hi : i < xs.length := by omega
      rw [List.range'_succ, List.foldl_cons, ih (i + 1) _ (by omega), List.drop_eq_getElem_cons hi, List.foldl_cons, gt_eq (by simpa using hi)]
      simp
  simpa using key xs.length 0 a (by omega)
theorem fold_if {α β : Type} (c : α → Bool) (g : β → α → β) : ∀ (xs : List α) (ys : List α) (b : β), (xs.foldl (fun ac x => bif c x then ac ++ [x] else ac) ys).foldl g b = xs.foldl (fun n x => bif c x then g n x else n) (ys.foldl g b)
  | [], ys, b => rfl
  | x :: xs, ys, b => by
    rw [List.foldl_cons, List.foldl_cons, fold_if c g xs]
    cases c x
    · rfl
    · rw [cond_true, cond_true, List.foldl_append]; rfl
theorem fold_map {α β : Type} (g : α → β) : ∀ (xs : List α) (ys : List β), xs.foldl (fun ac x => ac ++ [g x]) ys = ys ++ xs.map g
  | [], ys => by simp
  | x :: xs, ys => by rw [List.foldl_cons, fold_map g xs]; simp
theorem leB_of {a b : Nat} (h : a ≤ b) : leB a b = true := decide_eq_true h
theorem szInt64S_ev (x : List Int) (o : (Lok (iOk .i64)) x) (l : Int) (h0 : 0 ≤ l) (h1 : l ≤ 1048576) : ∃ t, Evt (fun k => laws_szInt64S.f k x l) t ∧ t ≤ l ∧ (0 ≤ t → (Lm tr) x) := by
  have hn := o.1
  exact ⟨szL x.length l, Evt.if_ (Evt.self _) (Evt.self _), szL_le h0 h1 hn, fun h => ⟨by have := szL_ok (n := x.length) (l := l) (by simpa using h) h0 h1 hn; omega, by simp⟩⟩
theorem szRule_ev (x : Rule) (o : okRule x) (l : Int) (h0 : 0 ≤ l) (h1 : l ≤ 1048576) : ∃ t, Evt (fun k => laws_szRule.f k x l) t ∧ t ≤ l ∧ (0 ≤ t → smRule x) := by
  obtain ⟨t0, e0, l0, s0⟩ := szInt64S_ev x.fKeys o.1 l (by omega) (by omega)
  by_cases c0 : t0 < 0
  · exact ⟨-1, Evt.bind e0 (Evt.t (by simpa using c0) (Evt.self _)), by omega, fun h => by omega⟩
  exact ⟨t0, Evt.bind e0 (Evt.f (by simpa using c0) (Evt.self _)), by omega, fun _ => ⟨s0 (by omega), (by repeat' (first | trivial | constructor)), (by repeat' (first | trivial | constructor))⟩⟩
theorem szOut_ev (x : Out) (o : okOut x) (l : Int) (h0 : 0 ≤ l) (h1 : l ≤ 1048576) : ∃ t, Evt (fun k => laws_szOut.f k x l) t ∧ t ≤ l ∧ (0 ≤ t → smOut x) := by
  obtain ⟨t0, e0, l0, s0⟩ := szRule_ev x.fRule o.2 l (by omega) (by omega)
  by_cases c0 : t0 < 0
  · exact ⟨-1, Evt.bind e0 (Evt.t (by simpa using c0) (Evt.self _)), by omega, fun h => by omega⟩
  exact ⟨t0, Evt.bind e0 (Evt.f (by simpa using c0) (Evt.self _)), by omega, fun _ => ⟨(by repeat' (first | trivial | constructor)), s0 (by omega)⟩⟩
theorem szCoin_ev (x : Coin) (o : okCoin x) (l : Int) (h0 : 0 ≤ l) (h1 : l ≤ 1048576) : ∃ t, Evt (fun k => laws_szCoin.f k x l) t ∧ t ≤ l ∧ (0 ≤ t → smCoin x) := by
  obtain ⟨t0, e0, l0, s0⟩ := szOut_ev x.fOut o.2.1 l (by omega) (by omega)
  by_cases c0 : t0 < 0
  · exact ⟨-1, Evt.bind e0 (Evt.t (by simpa using c0) (Evt.self _)), by omega, fun h => by omega⟩
  exact ⟨t0, Evt.bind e0 (Evt.f (by simpa using c0) (Evt.self _)), by omega, fun _ => ⟨(by repeat' (first | trivial | constructor)), s0 (by omega), (by repeat' (first | trivial | constructor)), (by repeat' (first | trivial | constructor))⟩⟩
theorem szCoinS_ev (x : List Coin) (o : (Lok okCoin) x) (l : Int) (h0 : 0 ≤ l) (h1 : l ≤ 1048576) : ∃ t, Evt (fun k => laws_szCoinS.f k x l) t ∧ t ≤ l ∧ (0 ≤ t → (Lm smCoin) x) := by
  have hn := o.1
  have hn' : x.length ≤ 9223372036854775807 := by simpa [maxLen] using hn
  by_cases c : decide (szL x.length l < 0) = true
  · refine ⟨-1, (Evt.t (f := fun _ => some (-1)) ?_ (Evt.self _)), by omega, fun h => by omega⟩
    have e : wrap64 (l - (x.length : Int)) = l - (x.length : Int) := by unfold wrap64; omega
    rw [e]
    by_cases c2 : l - (x.length : Int) < 0
    · exact decide_eq_true c2
    · unfold szL at c; rw [e, decide_eq_false c2] at c; simp at c; omega
  have c' : decide (szL x.length l < 0) = false := by simpa using c
  obtain ⟨h2, h3⟩ := szL_ok c' h0 h1 hn
  have e : wrap64 (l - (x.length : Int)) = l - (x.length : Int) := by unfold wrap64; omega
  obtain ⟨r, hr, hr2⟩ := Evt.szl (L := fun k left i => laws_szCoinS.l0 x k left i) (sm := smCoin) x hn' (fun i hi left a0 a1 => by
    obtain ⟨t, e1, e2, e3⟩ := szCoin_ev (gt x (i : Int)) (o.2 _ (gt_mem hi)) left a0 a1
    refine ⟨t, e2, e3, fun c => ?_, fun o c ho => ?_⟩
    · refine Evt.s ?_
      simp only [laws_szCoinS.l0_s]
      exact Evt.t (int_lt hi) (Evt.chk (idx_ok hi) (Evt.bind e1 (Evt.t (by simpa using c) (Evt.self _))))
    · refine Evt.s ?_
      simp only [laws_szCoinS.l0_s]
      exact Evt.t (int_lt hi) (Evt.chk (idx_ok hi) (Evt.bind e1 (Evt.f (by simpa using c) ho)))) (fun left => by
    refine Evt.s ?_
    simp only [laws_szCoinS.l0_s]
    exact Evt.f int_nlt (Evt.self _)) (l - (x.length : Int)) (by omega) (by omega)
  refine ⟨onw r id id, Evt.f (by rw [e]; simpa using h2) (Evt.thn (r' := id) (g' := id) (by rw [e]; exact hr) (fun _ => rfl) (fun y _ => Evt.self y)), ?_, ?_⟩
  · cases r with
    | inl r => have h5 : r = -1 := hr2; subst h5; show (-1 : Int) ≤ l; omega
    | inr t => have h5 : 0 ≤ t ∧ t ≤ l - (x.length : Int) ∧ _ := hr2; show t ≤ l; omega
  · intro h
    cases r with
    | inl r => have h5 : r = -1 := hr2; subst h5; simp [onw] at h
    | inr t => have h5 : 0 ≤ t ∧ t ≤ l - (x.length : Int) ∧ _ := hr2; exact ⟨by omega, h5.2.2⟩
theorem szOutS_ev (x : List Out) (o : (Lok okOut) x) (l : Int) (h0 : 0 ≤ l) (h1 : l ≤ 1048576) : ∃ t, Evt (fun k => laws_szOutS.f k x l) t ∧ t ≤ l ∧ (0 ≤ t → (Lm smOut) x) := by
  have hn := o.1
  have hn' : x.length ≤ 9223372036854775807 := by simpa [maxLen] using hn
  by_cases c : decide (szL x.length l < 0) = true
  · refine ⟨-1, (Evt.t (f := fun _ => some (-1)) ?_ (Evt.self _)), by omega, fun h => by omega⟩
    have e : wrap64 (l - (x.length : Int)) = l - (x.length : Int) := by unfold wrap64; omega
    rw [e]
    by_cases c2 : l - (x.length : Int) < 0
    · exact decide_eq_true c2
    · unfold szL at c; rw [e, decide_eq_false c2] at c; simp at c; omega
  have c' : decide (szL x.length l < 0) = false := by simpa using c
  obtain ⟨h2, h3⟩ := szL_ok c' h0 h1 hn
  have e : wrap64 (l - (x.length : Int)) = l - (x.length : Int) := by unfold wrap64; omega
  obtain ⟨r, hr, hr2⟩ := Evt.szl (L := fun k left i => laws_szOutS.l0 x k left i) (sm := smOut) x hn' (fun i hi left a0 a1 => by
    obtain ⟨t, e1, e2, e3⟩ := szOut_ev (gt x (i : Int)) (o.2 _ (gt_mem hi)) left a0 a1
    refine ⟨t, e2, e3, fun c => ?_, fun o c ho => ?_⟩
    · refine Evt.s ?_
      simp only [laws_szOutS.l0_s]
      exact Evt.t (int_lt hi) (Evt.chk (idx_ok hi) (Evt.bind e1 (Evt.t (by simpa using c) (Evt.self _))))
    · refine Evt.s ?_
      simp only [laws_szOutS.l0_s]
      exact Evt.t (int_lt hi) (Evt.chk (idx_ok hi) (Evt.bind e1 (Evt.f (by simpa using c) ho)))) (fun left => by
    refine Evt.s ?_
    simp only [laws_szOutS.l0_s]
    exact Evt.f int_nlt (Evt.self _)) (l - (x.length : Int)) (by omega) (by omega)
  refine ⟨onw r id id, Evt.f (by rw [e]; simpa using h2) (Evt.thn (r' := id) (g' := id) (by rw [e]; exact hr) (fun _ => rfl) (fun y _ => Evt.self y)), ?_, ?_⟩
  · cases r with
    | inl r => have h5 : r = -1 := hr2; subst h5; show (-1 : Int) ≤ l; omega
    | inr t => have h5 : 0 ≤ t ∧ t ≤ l - (x.length : Int) ∧ _ := hr2; show t ≤ l; omega
  · intro h
    cases r with
    | inl r => have h5 : r = -1 := hr2; subst h5; simp [onw] at h
    | inr t => have h5 : 0 ≤ t ∧ t ≤ l - (x.length : Int) ∧ _ := hr2; exact ⟨by omega, h5.2.2⟩
theorem toRef_ev (x : Ref) (h : smRef x) : Evt (fun k => laws_toRef.f k x) x := Evt.self _
theorem toInt64S_ev (x : List Int) (h : (Lm tr) x) : Evt (fun k => laws_toInt64S.f k x) x := by
  have hn := h.1
  refine Evt.chk (by simp) (Evt.chk (by simp [leB]; omega) (Evt.bind (a := x) ?_ (Evt.self _)))
  have := Evt.copy (L := fun k acc i => laws_toInt64S.l0 x k acc i) x id (by omega) (fun acc i hl hi r hr => ?_) (fun acc => ?_) (List.replicate ((x.length : Int)).toNat 0) (by simp)
  · simpa using this
  · refine Evt.s ?_
    simp only [laws_toInt64S.l0_s]
    refine Evt.t (int_lt hi) (Evt.chk (idx_ok hi) (Evt.chk (idx_ok (hl ▸ hi)) ?_))
    simpa using hr
  · refine Evt.s ?_
    simp only [laws_toInt64S.l0_s]
    exact Evt.f int_nlt (Evt.self _)
theorem toRule_ev (x : Rule) (h : smRule x) : Evt (fun k => laws_toRule.f k x) x := Evt.bind (toInt64S_ev _ h.1) (Evt.self _)
theorem toOut_ev (x : Out) (h : smOut x) : Evt (fun k => laws_toOut.f k x) x := Evt.bind (toRule_ev _ h.2) (Evt.self _)
theorem toCoin_ev (x : Coin) (h : smCoin x) : Evt (fun k => laws_toCoin.f k x) x := Evt.bind (toRef_ev _ h.1) (Evt.bind (toOut_ev _ h.2.1) (Evt.self _))
theorem toCoinS_ev (x : List Coin) (h : (Lm smCoin) x) : Evt (fun k => laws_toCoinS.f k x) x := by
  have hn := h.1
  refine Evt.chk (by simp) (Evt.chk (by simp [leB]; omega) (Evt.bind (a := x) ?_ (Evt.self _)))
  have := Evt.copy (L := fun k acc i => laws_toCoinS.l0 x k acc i) x id (by omega) (fun acc i hl hi r hr => ?_) (fun acc => ?_) (List.replicate ((x.length : Int)).toNat (⟨(⟨0, 0⟩ : Ref), (⟨0, (⟨[], 0, 0⟩ : Rule)⟩ : Out), 0, false⟩ : Coin)) (by simp)
  · simpa using this
  · refine Evt.s ?_
    simp only [laws_toCoinS.l0_s]
    refine Evt.t (int_lt hi) (Evt.chk (idx_ok hi) (Evt.bind (toCoin_ev _ (h.2 _ (gt_mem hi))) (Evt.chk (idx_ok (hl ▸ hi)) ?_)))
    simpa using hr
  · refine Evt.s ?_
    simp only [laws_toCoinS.l0_s]
    exact Evt.f int_nlt (Evt.self _)
theorem toOutS_ev (x : List Out) (h : (Lm smOut) x) : Evt (fun k => laws_toOutS.f k x) x := by
  have hn := h.1
  refine Evt.chk (by simp) (Evt.chk (by simp [leB]; omega) (Evt.bind (a := x) ?_ (Evt.self _)))
  have := Evt.copy (L := fun k acc i => laws_toOutS.l0 x k acc i) x id (by omega) (fun acc i hl hi r hr => ?_) (fun acc => ?_) (List.replicate ((x.length : Int)).toNat (⟨0, (⟨[], 0, 0⟩ : Rule)⟩ : Out)) (by simp)
  · simpa using this
  · refine Evt.s ?_
    simp only [laws_toOutS.l0_s]
    refine Evt.t (int_lt hi) (Evt.chk (idx_ok hi) (Evt.bind (toOut_ev _ (h.2 _ (gt_mem hi))) (Evt.chk (idx_ok (hl ▸ hi)) ?_)))
    simpa using hr
  · refine Evt.s ?_
    simp only [laws_toOutS.l0_s]
    exact Evt.f int_nlt (Evt.self _)
def spec_l1In_v (x0 : Int) (x1 : Int) (x2 : Int) : Bool := ((decide (x1 ≤ x0)) && (decide (x0 ≤ x2)))
theorem spec_l1In_ev (x0 : Int) (x1 : Int) (x2 : Int)  : Evt (fun k => spec_l1In.f k x0 x1 x2) (spec_l1In_v x0 x1 x2) :=
  (Evt.self _)
def spec_l3Ref_v (x0 : Ref) : Bool := ((spec_l1In_v x0.fTx 1 60) && (bif (spec_l1In_v x0.fTx 1 60) then (spec_l1In_v x0.fAt 0 3) else default))
theorem spec_l3Ref_ev (x0 : Ref)  : Evt (fun k => spec_l3Ref.f k x0) (spec_l3Ref_v x0) :=
  (Evt.bind (spec_l1In_ev x0.fTx 1 60) (Evt.bind (Evt.ifh (fun _ => (spec_l1In_ev x0.fAt 0 3)) (fun _ => Evt.self _)) (Evt.self _)))
def spec_l2Height_v (x0 : Int) : Bool := (spec_l1In_v x0 0 999)
theorem spec_l2Height_ev (x0 : Int)  : Evt (fun k => spec_l2Height.f k x0) (spec_l2Height_v x0) :=
  (Evt.bind (spec_l1In_ev x0 0 999) (Evt.self _))
def spec_l1Key_v (x0 : Int) : Bool := (spec_l1In_v x0 1 999)
theorem spec_l1Key_ev (x0 : Int)  : Evt (fun k => spec_l1Key.f k x0) (spec_l1Key_v x0) :=
  (Evt.bind (spec_l1In_ev x0 1 999) (Evt.self _))
def spec_l2Fault_v (x0 : Rule) : Int := (bif !(spec_l1In_v (x0.fKeys.length : Int) 1 3) then 2 else (onO ((List.range' 0 (x0.fKeys.length - 0)).findSome? (fun (i0 : Nat) => (bif !(spec_l1Key_v (gt x0.fKeys (i0 : Int))) then (some 3) else none))) (fun r => r) (bif ((!(spec_l1In_v x0.fNeed 1 (x0.fKeys.length : Int))) || (!(bif (!(!(spec_l1In_v x0.fNeed 1 (x0.fKeys.length : Int)))) then (spec_l2Height_v x0.fAfter) else default))) then 3 else (onO ((List.range' 1 (x0.fKeys.length - 1)).findSome? (fun (i2 : Nat) => (bif (decide ((gt x0.fKeys (i2 : Int)) ≤ (gt x0.fKeys (wrap64 ((i2 : Int) - 1))))) then (some 1) else none))) (fun r => r) 0))))
theorem spec_l2Fault_ev (x0 : Rule) (h_x0 : smRule x0) : Evt (fun k => spec_l2Fault.f k x0) (spec_l2Fault_v x0) :=
  (Evt.bind (spec_l1In_ev (x0.fKeys.length : Int) 1 3) (Evt.ifh (fun hc5 => (Evt.self _)) (fun hc5 => (Evt.loop (r' := fun r => r) (Evt.srch (L := (fun k i => spec_l2Fault.l0 x0 k i)) 0 x0.fKeys.length (by have := h_x0.1; first | (have := this.1; omega) | omega) (fun (i0 : Nat) => (bif !(spec_l1Key_v (gt x0.fKeys (i0 : Int))) then (some 3) else none)) (fun i0 hs2 hi2 => by
  have hbn : x0.fKeys.length ≤ 9223372036854775807 := (by have := h_x0.1; first | (have := this.1; omega) | omega)
  simp only [spec_l2Fault.l0_s]
  exact Evt_t2 (int_lt hi2) (StE.chk (by first | exact idx_ok (by omega) | exact idx_ok (by have hq := len_eq (by assumption); omega) | exact idx_found (show (0 : Int) ≤ (i0 : Int) by simp_all) | exact cut_ok (by omega) | exact or_ok (idx_ok (by omega)) | (refine or1 (fun hz => pre_ok (by simp at hz; omega) (by omega) (by omega))) | exact pre_ok (by omega) (by omega) (by omega) | (simp_all [idxOk, cutOk, leB]; done) | (simp_all [idxOk, cutOk, leB]; omega) | (simp [idxOk, cutOk, leB] at *; omega) | (have hf0 := h_x0.1.1; simp only [leB, decide_eq_true_eq, List.length_append, List.length_cons, List.length_nil]; omega)) (StE.bind (spec_l1Key_ev (gt x0.fKeys (i0 : Int))) (StE.ifh (fun hc1 => (StE.ret _)) (fun hc1 => StE.next))))) (fun j hj => by
  simp only [spec_l2Fault.l0_s]
  exact Evt.f (ge_lt hj) (Evt.self _))) (fun _ => rfl) (Evt.bind (spec_l1In_ev x0.fNeed 1 (x0.fKeys.length : Int)) (Evt.bind (Evt.ifh (fun _ => (spec_l2Height_ev x0.fAfter)) (fun _ => Evt.self _)) (Evt.ifh (fun hc4 => (Evt.self _)) (fun hc4 => (Evt.loop (r' := fun r => r) (Evt.srch (L := (fun k i => spec_l2Fault.l1 x0 k i)) 1 x0.fKeys.length (by have := h_x0.1; first | (have := this.1; omega) | omega) (fun (i2 : Nat) => (bif (decide ((gt x0.fKeys (i2 : Int)) ≤ (gt x0.fKeys (wrap64 ((i2 : Int) - 1))))) then (some 1) else none)) (fun i2 hs4 hi4 => by
  have hbn : x0.fKeys.length ≤ 9223372036854775807 := (by have := h_x0.1; first | (have := this.1; omega) | omega)
  simp only [spec_l2Fault.l1_s]
  exact Evt_t2 (int_lt hi4) (StE.chk (by first | exact idx_ok (by omega) | exact idx_ok (by have hq := len_eq (by assumption); omega) | exact idx_found (show (0 : Int) ≤ (i2 : Int) by simp_all) | exact cut_ok (by omega) | exact or_ok (idx_ok (by omega)) | (refine or1 (fun hz => pre_ok (by simp at hz; omega) (by omega) (by omega))) | exact pre_ok (by omega) (by omega) (by omega) | (simp_all [idxOk, cutOk, leB]; done) | (simp_all [idxOk, cutOk, leB]; omega) | (simp [idxOk, cutOk, leB] at *; omega) | (have hf0 := h_x0.1.1; simp only [leB, decide_eq_true_eq, List.length_append, List.length_cons, List.length_nil]; omega)) (StE.chk (by first | exact idx_ok (by omega) | exact idx_ok (by have hq := len_eq (by assumption); omega) | exact idx_found (show (0 : Int) ≤ (wrap64 ((i2 : Int) - 1)) by simp_all) | exact cut_ok (by omega) | exact or_ok (idx_ok (by omega)) | (refine or1 (fun hz => pre_ok (by simp at hz; omega) (by omega) (by omega))) | exact pre_ok (by omega) (by omega) (by omega) | (simp_all [idxOk, cutOk, leB]; done) | (simp_all [idxOk, cutOk, leB]; omega) | (simp [idxOk, cutOk, leB] at *; omega) | (have hf0 := h_x0.1.1; simp only [leB, decide_eq_true_eq, List.length_append, List.length_cons, List.length_nil]; omega)) (StE.ifh (fun hc3 => (StE.ret _)) (fun hc3 => StE.next))))) (fun j hj => by
  simp only [spec_l2Fault.l1_s]
  exact Evt.f (ge_lt hj) (Evt.self _))) (fun _ => rfl) (Evt.self _))))))))))
def spec_l4Out_v (x0 : Out) : Int := (bif !(spec_l1In_v x0.fValue 1 1000000) then 3 else (spec_l2Fault_v x0.fRule))
theorem spec_l4Out_ev (x0 : Out) (h_x0 : smOut x0) : Evt (fun k => spec_l4Out.f k x0) (spec_l4Out_v x0) :=
  (Evt.bind (spec_l1In_ev x0.fValue 1 1000000) (Evt.ifh (fun hc0 => (Evt.self _)) (fun hc0 => (Evt.bind (spec_l2Fault_ev x0.fRule (h_x0.2)) (Evt.self _)))))
def spec_l4Ahead_v (x0 : Ref) (x1 : Ref) : Bool := (bif (x0.fTx != x1.fTx) then (decide (x0.fTx < x1.fTx)) else (decide (x0.fAt < x1.fAt)))
theorem spec_l4Ahead_ev (x0 : Ref) (x1 : Ref)  : Evt (fun k => spec_l4Ahead.f k x0 x1) (spec_l4Ahead_v x0 x1) :=
  (Evt.ifh (fun hc0 => (Evt.self _)) (fun hc0 => (Evt.self _)))
def spec_l4Fault_v (x0 : List Coin) : Int := (bif (decide (40 < (x0.length : Int))) then 2 else (onO ((List.range' 0 (x0.length - 0)).findSome? (fun (i0 : Nat) => (bif ((!(spec_l3Ref_v ((gt x0 (i0 : Int)).fRef))) || (!(bif (!(!(spec_l3Ref_v ((gt x0 (i0 : Int)).fRef)))) then (spec_l2Height_v ((gt x0 (i0 : Int)).fHeight)) else default))) then (some 3) else (bif ((spec_l4Out_v ((gt x0 (i0 : Int)).fOut)) != 0) then (some (spec_l4Out_v ((gt x0 (i0 : Int)).fOut))) else (bif ((decide (0 < (i0 : Int))) && (!(bif (decide (0 < (i0 : Int))) then (spec_l4Ahead_v ((gt x0 (wrap64 ((i0 : Int) - 1))).fRef) ((gt x0 (i0 : Int)).fRef)) else default))) then (some 1) else none))))) (fun r => r) 0))
theorem spec_l4Fault_ev (x0 : List Coin) (h_x0 : (Lm smCoin) x0) : Evt (fun k => spec_l4Fault.f k x0) (spec_l4Fault_v x0) :=
  (Evt.ifh (fun hc4 => (Evt.self _)) (fun hc4 => (Evt.loop (r' := fun r => r) (Evt.srch (L := (fun k i => spec_l4Fault.l0 x0 k i)) 0 x0.length (by have := h_x0; first | (have := this.1; omega) | omega) (fun (i0 : Nat) => (bif ((!(spec_l3Ref_v ((gt x0 (i0 : Int)).fRef))) || (!(bif (!(!(spec_l3Ref_v ((gt x0 (i0 : Int)).fRef)))) then (spec_l2Height_v ((gt x0 (i0 : Int)).fHeight)) else default))) then (some 3) else (bif ((spec_l4Out_v ((gt x0 (i0 : Int)).fOut)) != 0) then (some (spec_l4Out_v ((gt x0 (i0 : Int)).fOut))) else (bif ((decide (0 < (i0 : Int))) && (!(bif (decide (0 < (i0 : Int))) then (spec_l4Ahead_v ((gt x0 (wrap64 ((i0 : Int) - 1))).fRef) ((gt x0 (i0 : Int)).fRef)) else default))) then (some 1) else none)))) (fun i0 hs4 hi4 => by
  have hbn : x0.length ≤ 9223372036854775807 := (by have := h_x0; first | (have := this.1; omega) | omega)
  simp only [spec_l4Fault.l0_s]
  exact Evt_t2 (int_lt hi4) (StE.chk (by first | exact idx_ok (by omega) | exact idx_ok (by have hq := len_eq (by assumption); omega) | exact idx_found (show (0 : Int) ≤ (i0 : Int) by simp_all) | exact cut_ok (by omega) | exact or_ok (idx_ok (by omega)) | (refine or1 (fun hz => pre_ok (by simp at hz; omega) (by omega) (by omega))) | exact pre_ok (by omega) (by omega) (by omega) | (simp_all [idxOk, cutOk, leB]; done) | (simp_all [idxOk, cutOk, leB]; omega) | (simp [idxOk, cutOk, leB] at *; omega) | (have hf0 := h_x0.1; simp only [leB, decide_eq_true_eq, List.length_append, List.length_cons, List.length_nil]; omega)) (StE.bind (spec_l3Ref_ev ((gt x0 (i0 : Int)).fRef)) (StE.chk (by first | exact idx_ok (by omega) | exact idx_ok (by have hq := len_eq (by assumption); omega) | exact idx_found (by simp_all) | exact cut_ok (by omega) | exact or_ok (idx_ok (by omega)) | (refine or1 (fun hz => pre_ok (by simp at hz; omega) (by omega) (by omega))) | exact pre_ok (by omega) (by omega) (by omega) | (simp_all [idxOk, cutOk, leB]; done) | (simp_all [idxOk, cutOk, leB]; omega) | (simp [idxOk, cutOk, leB] at *; omega) | (have hf0 := h_x0.1; simp only [leB, decide_eq_true_eq, List.length_append, List.length_cons, List.length_nil]; omega)) (StE.bind (Evt.ifh (fun _ => (spec_l2Height_ev ((gt x0 (i0 : Int)).fHeight))) (fun _ => Evt.self _)) (StE.ifh (fun hc3 => (StE.ret _)) (fun hc3 => (StE.chk (by first | exact idx_ok (by omega) | exact idx_ok (by have hq := len_eq (by assumption); omega) | exact idx_found (show (0 : Int) ≤ (i0 : Int) by simp_all) | exact cut_ok (by omega) | exact or_ok (idx_ok (by omega)) | (refine or1 (fun hz => pre_ok (by simp at hz; omega) (by omega) (by omega))) | exact pre_ok (by omega) (by omega) (by omega) | (simp_all [idxOk, cutOk, leB]; done) | (simp_all [idxOk, cutOk, leB]; omega) | (simp [idxOk, cutOk, leB] at *; omega) | (have hf0 := h_x0.1; simp only [leB, decide_eq_true_eq, List.length_append, List.length_cons, List.length_nil]; omega)) (StE.bind (spec_l4Out_ev ((gt x0 (i0 : Int)).fOut) (((h_x0).2 _ (gt_mem (by first | omega | (have hq := len_eq (by assumption); omega) | (have hf0 := h_x0.1; simp only [leB, decide_eq_true_eq, List.length_append, List.length_cons, List.length_nil]; omega)))).2.1)) (StE.ifh (fun hc2 => (StE.ret _)) (fun hc2 => (StE.chk (by first | exact idx_ok (by omega) | exact idx_ok (by have hq := len_eq (by assumption); omega) | exact idx_found (by simp_all) | exact cut_ok (by omega) | exact or_ok (idx_ok (by omega)) | (refine or1 (fun hz => pre_ok (by simp at hz; omega) (by omega) (by omega))) | exact pre_ok (by omega) (by omega) (by omega) | (simp_all [idxOk, cutOk, leB]; done) | (simp_all [idxOk, cutOk, leB]; omega) | (simp [idxOk, cutOk, leB] at *; omega) | (have hf0 := h_x0.1; simp only [leB, decide_eq_true_eq, List.length_append, List.length_cons, List.length_nil]; omega)) (StE.chk (by first | exact idx_ok (by omega) | exact idx_ok (by have hq := len_eq (by assumption); omega) | exact idx_found (by simp_all) | exact cut_ok (by omega) | exact or_ok (idx_ok (by omega)) | (refine or1 (fun hz => pre_ok (by simp at hz; omega) (by omega) (by omega))) | exact pre_ok (by omega) (by omega) (by omega) | (simp_all [idxOk, cutOk, leB]; done) | (simp_all [idxOk, cutOk, leB]; omega) | (simp [idxOk, cutOk, leB] at *; omega) | (have hf0 := h_x0.1; simp only [leB, decide_eq_true_eq, List.length_append, List.length_cons, List.length_nil]; omega)) (StE.bind (Evt.ifh (fun _ => (spec_l4Ahead_ev ((gt x0 (wrap64 ((i0 : Int) - 1))).fRef) ((gt x0 (i0 : Int)).fRef))) (fun _ => Evt.self _)) (StE.ifh (fun hc1 => (StE.ret _)) (fun hc1 => StE.next)))))))))))))))) (fun j hj => by
  simp only [spec_l4Fault.l0_s]
  exact Evt.f (ge_lt hj) (Evt.self _))) (fun _ => rfl) (Evt.self _))))
def spec_l4Of_v (x0 : List Coin) (x1 : Int) : Bool := (onO ((List.range' 0 (x0.length - 0)).findSome? (fun (i0 : Nat) => (bif (((gt x0 (i0 : Int)).fRef.fTx) == x1) then (some true) else none))) (fun r => r) false)
theorem spec_l4Of_ev (x0 : List Coin) (x1 : Int) (h_x0 : (Lm smCoin) x0) : Evt (fun k => spec_l4Of.f k x0 x1) (spec_l4Of_v x0 x1) :=
  (Evt.loop (r' := fun r => r) (Evt.srch (L := (fun k i => spec_l4Of.l0 x0 x1 k i)) 0 x0.length (by have := h_x0; first | (have := this.1; omega) | omega) (fun (i0 : Nat) => (bif (((gt x0 (i0 : Int)).fRef.fTx) == x1) then (some true) else none)) (fun i0 hs2 hi2 => by
  have hbn : x0.length ≤ 9223372036854775807 := (by have := h_x0; first | (have := this.1; omega) | omega)
  simp only [spec_l4Of.l0_s]
  exact Evt_t2 (int_lt hi2) (StE.chk (by first | exact idx_ok (by omega) | exact idx_ok (by have hq := len_eq (by assumption); omega) | exact idx_found (show (0 : Int) ≤ (i0 : Int) by simp_all) | exact cut_ok (by omega) | exact or_ok (idx_ok (by omega)) | (refine or1 (fun hz => pre_ok (by simp at hz; omega) (by omega) (by omega))) | exact pre_ok (by omega) (by omega) (by omega) | (simp_all [idxOk, cutOk, leB]; done) | (simp_all [idxOk, cutOk, leB]; omega) | (simp [idxOk, cutOk, leB] at *; omega) | (have hf0 := h_x0.1; simp only [leB, decide_eq_true_eq, List.length_append, List.length_cons, List.length_nil]; omega)) (StE.ifh (fun hc1 => (StE.ret _)) (fun hc1 => StE.next)))) (fun j hj => by
  simp only [spec_l4Of.l0_s]
  exact Evt.f (ge_lt hj) (Evt.self _))) (fun _ => rfl) (Evt.self _))
def spec_l2Copy_v (x0 : Rule) : Rule := (⟨([] : List Int) ++ x0.fKeys, x0.fNeed, x0.fAfter⟩ : Rule)
theorem spec_l2Copy_ev (x0 : Rule) (h_x0 : smRule x0) : Evt (fun k => spec_l2Copy.f k x0) (spec_l2Copy_v x0) :=
  (Evt.chk (by first | exact idx_ok (by omega) | exact idx_ok (by have hq := len_eq (by assumption); omega) | exact idx_found (by simp_all) | exact cut_ok (by omega) | exact or_ok (idx_ok (by omega)) | (refine or1 (fun hz => pre_ok (by simp at hz; omega) (by omega) (by omega))) | exact pre_ok (by omega) (by omega) (by omega) | (simp_all [idxOk, cutOk, leB]; done) | (simp_all [idxOk, cutOk, leB]; omega) | (simp [idxOk, cutOk, leB] at *; omega) | (have hf0 := h_x0.1.1; simp only [leB, decide_eq_true_eq, List.length_append, List.length_cons, List.length_nil]; omega)) (Evt.self _))
def spec_l4Copy_v (x0 : List Coin) : (List Coin) := ((List.range' 0 (x0.length - 0)).foldl (fun ac1 (i0 : Nat) => ((ac1 ++ ([(⟨(gt x0 (i0 : Int)).fRef, (⟨(gt x0 (i0 : Int)).fOut.fValue, (spec_l2Copy_v ((gt x0 (i0 : Int)).fOut.fRule))⟩ : Out), (gt x0 (i0 : Int)).fHeight, (gt x0 (i0 : Int)).fMined⟩ : Coin)] : List Coin)))) ([] : List Coin))
theorem spec_l4Copy_ev (x0 : List Coin) (h_x0 : (Lm smCoin) x0) : Evt (fun k => spec_l4Copy.f k x0) (spec_l4Copy_v x0) :=
  (Evt.bind (Evt.gatherL (L := (fun k ac i => spec_l4Copy.l0 x0 k ac i)) x0.length (by have := h_x0; first | (have := this.1; omega) | omega) (fun ac1 (i0 : Nat) => ((ac1 ++ ([(⟨(gt x0 (i0 : Int)).fRef, (⟨(gt x0 (i0 : Int)).fOut.fValue, (spec_l2Copy_v ((gt x0 (i0 : Int)).fOut.fRule))⟩ : Out), (gt x0 (i0 : Int)).fHeight, (gt x0 (i0 : Int)).fMined⟩ : Coin)] : List Coin)))) (fun i0 hi1 ac1 hgl => (by first | (simp only [List.length_append, List.length_cons, List.length_nil]; omega) | omega)) (fun i0 hi1 ac1 hgl o hg => by
  have hbn : x0.length ≤ 1048576 := (by have := h_x0; first | (have := this.1; omega) | omega)
  simp only [spec_l4Copy.l0_s]
  exact Evt.t (int_lt hi1) (Evt.chk (by first | (simp only [leB, decide_eq_true_eq, List.length_append, List.length_cons, List.length_nil]; omega) | exact idx_ok (by omega) | exact idx_ok (by have hq := len_eq (by assumption); omega) | exact idx_found (by simp_all) | exact cut_ok (by omega) | exact or_ok (idx_ok (by omega)) | (refine or1 (fun hz => pre_ok (by simp at hz; omega) (by omega) (by omega))) | exact pre_ok (by omega) (by omega) (by omega) | (simp_all [idxOk, cutOk, leB]; done) | (simp_all [idxOk, cutOk, leB]; omega) | (simp [idxOk, cutOk, leB] at *; omega) | (have hf0 := h_x0.1; simp only [leB, decide_eq_true_eq, List.length_append, List.length_cons, List.length_nil]; omega)) (Evt.bind (spec_l2Copy_ev ((gt x0 (i0 : Int)).fOut.fRule) ((((h_x0).2 _ (gt_mem (by first | omega | (have hq := len_eq (by assumption); omega) | (have hf0 := h_x0.1; simp only [leB, decide_eq_true_eq, List.length_append, List.length_cons, List.length_nil]; omega)))).2.1).2)) (Evt.chk (by first | (simp only [leB, decide_eq_true_eq, List.length_append, List.length_cons, List.length_nil]; omega) | exact idx_ok (by omega) | exact idx_ok (by have hq := len_eq (by assumption); omega) | exact idx_found (by simp_all) | exact cut_ok (by omega) | exact or_ok (idx_ok (by omega)) | (refine or1 (fun hz => pre_ok (by simp at hz; omega) (by omega) (by omega))) | exact pre_ok (by omega) (by omega) (by omega) | (simp_all [idxOk, cutOk, leB]; done) | (simp_all [idxOk, cutOk, leB]; omega) | (simp [idxOk, cutOk, leB] at *; omega) | (have hf0 := h_x0.1; simp only [leB, decide_eq_true_eq, List.length_append, List.length_cons, List.length_nil]; omega)) hg)))) (fun j ac hj => by
  simp only [spec_l4Copy.l0_s]
  exact Evt.f (ge_lt hj) (Evt.self _))) (Evt.self _))
theorem l2Copy_id (r : Rule) : spec_l2Copy_v r = r := by simp [spec_l2Copy_v]
theorem l4Copy_id (x0 : List Coin) : spec_l4Copy_v x0 = x0 := by
  have h := range_foldl x0 (fun ac (x : Coin) => ac ++ [(⟨x.fRef, ⟨x.fOut.fValue, spec_l2Copy_v x.fOut.fRule⟩, x.fHeight, x.fMined⟩ : Coin)]) []
  refine Eq.trans h ?_
  rw [fold_map]
  simp only [l2Copy_id]
  simp
def addN (l : List Coin) (r : Ref) : Nat := (l.takeWhile fun c => spec_l4Ahead_v c.fRef r).length
def spec_l4Add_v (l : List Coin) (x : Coin) : List Coin := l.take (addN l x.fRef) ++ [x] ++ l.drop (addN l x.fRef)
theorem addN_le (l : List Coin) (r : Ref) : addN l r ≤ l.length := (List.takeWhile_sublist _).length_le
theorem l4Add_loop (x0 : List Coin) (x1 : Coin) (hn : x0.length ≤ 100000000) : ∀ (suf pre : List Coin), x0 = pre ++ suf → Evt (fun k => spec_l4Add.l0 x0 x1 k (pre.length : Int)) ((pre.length + addN suf x1.fRef : Nat) : Int)
  | [], pre, h => by
    have hl : x0.length = pre.length := by rw [h]; simp
    have e : decide ((pre.length : Int) < (x0.length : Int)) = false := ge_lt (by omega)
    refine Evt.s ?_
    simp only [spec_l4Add.l0_s, e]
    exact Evt.chk rfl (Evt.bind (Evt.f rfl (Evt.self _)) (Evt.f rfl (Evt.self _)))
  | c :: suf, pre, h => by
    have hl : x0.length = pre.length + (suf.length + 1) := by rw [h]; simp
    have hlt : pre.length < x0.length := by omega
    have hg : gt x0 (pre.length : Int) = c := by
      rw [gt_eq (by simpa using hlt)]
      simp only [Int.toNat_natCast, h]
      rw [List.getElem_append_right (Nat.le_refl _)]
      simp
    refine Evt.s ?_
    simp only [spec_l4Add.l0_s, hg, int_lt hlt]
    refine Evt.chk (or_ok (idx_ok hlt)) (Evt.bind (Evt.t rfl (spec_l4Ahead_ev c.fRef x1.fRef)) ?_)
    cases hc : spec_l4Ahead_v c.fRef x1.fRef
    · refine Evt.f rfl (Evt.ret ?_)
      unfold addN
      rw [List.takeWhile_cons, hc]; simp
    · refine Evt.t rfl ?_
      rw [w64 hlt (by omega)]
      have := l4Add_loop x0 x1 hn suf (pre ++ [c]) (by rw [h]; simp)
      rw [List.length_append, List.length_cons, List.length_nil] at this
      refine this.to ?_
      unfold addN
      rw [List.takeWhile_cons, hc]
      simp only [if_true, List.length_cons]
      congr 1; omega
theorem l4Add_ev (x0 : List Coin) (x1 : Coin) (hn : x0.length ≤ 100000000) : Evt (fun k => spec_l4Add.f k x0 x1) (spec_l4Add_v x0 x1) := by
  have h := l4Add_loop x0 x1 hn x0 [] rfl
  simp only [List.length_nil, Nat.zero_add] at h
  have hle := addN_le x0 x1.fRef
  refine Evt.bind h (Evt.chk (cut_ok hle) (Evt.chk (leB_of (by simp; omega)) (Evt.chk (cut_ok hle) (Evt.chk (leB_of (by simp; omega)) (Evt.chk (leB_of (by simp; omega)) (Evt.chk (decide_eq_true (Nat.le_refl _)) (Evt.ret ?_)))))))
  unfold spec_l4Add_v
  simp only [Int.toNat_natCast]
theorem l4Add_nil (x : Coin) : spec_l4Add_v [] x = [x] := rfl
theorem l4Add_cons (c : Coin) (l : List Coin) (x : Coin) : spec_l4Add_v (c :: l) x = if spec_l4Ahead_v c.fRef x.fRef = true then c :: spec_l4Add_v l x else x :: c :: l := by
  unfold spec_l4Add_v addN
  rw [List.takeWhile_cons]
  by_cases h : spec_l4Ahead_v c.fRef x.fRef = true
  · rw [if_pos h, if_pos h]; simp
  · rw [if_neg h, if_neg h]; simp
theorem l4Add_perm (x : Coin) : ∀ l : List Coin, (spec_l4Add_v l x).Perm (l ++ [x])
  | [] => .refl _
  | c :: l => by
    rw [l4Add_cons]
    split
    · exact (l4Add_perm x l).cons c
    · exact (List.perm_append_singleton x (c :: l)).symm
def newAt (x1 x3 : Int) (x4 : Bool) (x2 : List Out) (i : Nat) : Coin := ⟨⟨x1, (i : Int)⟩, gt x2 (i : Int), x3, x4⟩
def news (x1 x3 : Int) (x4 : Bool) (x2 : List Out) : List Coin := (List.range' 0 x2.length).map (newAt x1 x3 x4 x2)
def spec_l4Put_v (x0 : List Coin) (x1 : Int) (x2 : List Out) (x3 : Int) (x4 : Bool) : List Coin := (List.range' 0 x2.length).foldl (fun ac i => spec_l4Add_v ac (newAt x1 x3 x4 x2 i)) x0
theorem l4Add_len (l : List Coin) (x : Coin) : (spec_l4Add_v l x).length = l.length + 1 := by rw [(l4Add_perm x l).length_eq]; simp
theorem l4Put_loop (x1 x3 : Int) (x4 : Bool) (x2 : List Out) (h_x2 : Lm smOut x2) : ∀ (d i : Nat) (ac : List Coin), i + d = x2.length → ac.length + d ≤ 10000000 → Evt (fun k => spec_l4Put.l0 x1 x2 x3 x4 k ac (i : Int)) ((List.range' i d).foldl (fun ac i => spec_l4Add_v ac (newAt x1 x3 x4 x2 i)) ac)
  | 0, i, ac, hi, ha => by
    refine Evt.s ?_
    simp only [spec_l4Put.l0_s]
    exact Evt.f (ge_lt (by omega)) (Evt.self _)
  | d + 1, i, ac, hi, ha => by
    have hlt : i < x2.length := by omega
    have hn := h_x2.1
    have hm := (h_x2.2 _ (gt_mem hlt)).2
    refine Evt.s ?_
    simp only [spec_l4Put.l0_s]
    refine Evt.t (int_lt hlt) (Evt.chk (idx_ok hlt) (Evt.chk (idx_ok hlt) (Evt.bind (spec_l2Copy_ev _ hm) (Evt.bind (l4Add_ev _ _ (by omega)) ?_))))
    rw [w64 hlt (by omega), l2Copy_id]
    rw [List.range'_succ, List.foldl_cons]
    exact l4Put_loop x1 x3 x4 x2 h_x2 d (i + 1) _ (by omega) (by rw [l4Add_len]; omega)
theorem spec_l4Put_ev (x0 : List Coin) (x1 : Int) (x2 : List Out) (x3 : Int) (x4 : Bool) (h_x0 : Lm smCoin x0) (h_x2 : Lm smOut x2) : Evt (fun k => spec_l4Put.f k x0 x1 x2 x3 x4) (spec_l4Put_v x0 x1 x2 x3 x4) := by
  have h1 := h_x0.1
  have h2 := h_x2.1
  have e := spec_l4Copy_ev x0 h_x0
  rw [l4Copy_id] at e
  exact Evt.bind e (Evt.bind (l4Put_loop x1 x3 x4 x2 h_x2 x2.length 0 x0 (by omega) (by omega)) (Evt.self _))
theorem l4Put_perm (x1 x3 : Int) (x4 : Bool) (x2 : List Out) : ∀ (is : List Nat) (ac : List Coin), (is.foldl (fun ac i => spec_l4Add_v ac (newAt x1 x3 x4 x2 i)) ac).Perm (ac ++ is.map (newAt x1 x3 x4 x2))
  | [], ac => by simp
  | i :: is, ac => by
    rw [List.foldl_cons, List.map_cons]
    refine (l4Put_perm x1 x3 x4 x2 is _).trans ?_
    have := (l4Add_perm (newAt x1 x3 x4 x2 i) ac).append_right (is.map (newAt x1 x3 x4 x2))
    simpa using this
def spec_PutCoins_v (x0 : List Coin) (x1 : Int) (x2 : List Out) (x3 : Int) (x4 : Bool) : CoinsResult := (bif ((spec_l4Fault_v x0) != 0) then (⟨(spec_l4Fault_v x0), ([] : List Coin)⟩ : CoinsResult) else (bif ((!(spec_l1In_v x1 1 60)) || (!(bif (!(!(spec_l1In_v x1 1 60))) then (spec_l2Height_v x3) else default))) then (⟨3, ([] : List Coin)⟩ : CoinsResult) else (bif (decide (4 < (x2.length : Int))) then (⟨2, ([] : List Coin)⟩ : CoinsResult) else (onO ((List.range' 0 (x2.length - 0)).findSome? (fun (i0 : Nat) => (bif ((spec_l4Out_v (gt x2 (i0 : Int))) != 0) then (some (⟨(spec_l4Out_v (gt x2 (i0 : Int))), ([] : List Coin)⟩ : CoinsResult)) else none))) (fun r => r) (bif (spec_l4Of_v x0 x1) then (⟨7, ([] : List Coin)⟩ : CoinsResult) else (bif (decide (40 < (wrap64 ((x0.length : Int) + (x2.length : Int))))) then (⟨2, ([] : List Coin)⟩ : CoinsResult) else (⟨0, (spec_l4Put_v x0 x1 x2 x3 x4)⟩ : CoinsResult)))))))
theorem spec_PutCoins_ev (x0 : List Coin) (x1 : Int) (x2 : List Out) (x3 : Int) (x4 : Bool) (h_x0 : (Lm smCoin) x0) (h_x2 : (Lm smOut) x2) : Evt (fun k => spec_PutCoins.f k x0 x1 x2 x3 x4) (spec_PutCoins_v x0 x1 x2 x3 x4) :=
  (Evt.bind (spec_l4Fault_ev x0 (h_x0)) (Evt.ifh (fun hc6 => (Evt.self _)) (fun hc6 => (Evt.bind (spec_l1In_ev x1 1 60) (Evt.bind (Evt.ifh (fun _ => (spec_l2Height_ev x3)) (fun _ => Evt.self _)) (Evt.ifh (fun hc5 => (Evt.self _)) (fun hc5 => (Evt.ifh (fun hc4 => (Evt.self _)) (fun hc4 => (Evt.loop (r' := fun r => r) (Evt.srch (L := (fun k i => spec_PutCoins.l0 x2 k i)) 0 x2.length (by have := h_x2; first | (have := this.1; omega) | omega) (fun (i0 : Nat) => (bif ((spec_l4Out_v (gt x2 (i0 : Int))) != 0) then (some (⟨(spec_l4Out_v (gt x2 (i0 : Int))), ([] : List Coin)⟩ : CoinsResult)) else none)) (fun i0 hs2 hi2 => by
  have hbn : x2.length ≤ 9223372036854775807 := (by have := h_x2; first | (have := this.1; omega) | omega)
  simp only [spec_PutCoins.l0_s]
  exact Evt_t2 (int_lt hi2) (StE.chk (by first | exact idx_ok (by omega) | exact idx_ok (by have hq := len_eq (by assumption); omega) | exact idx_found (show (0 : Int) ≤ (i0 : Int) by simp_all) | exact cut_ok (by omega) | exact or_ok (idx_ok (by omega)) | (refine or1 (fun hz => pre_ok (by simp at hz; omega) (by omega) (by omega))) | exact pre_ok (by omega) (by omega) (by omega) | (simp_all [idxOk, cutOk, leB]; done) | (simp_all [idxOk, cutOk, leB]; omega) | (simp [idxOk, cutOk, leB] at *; omega) | (have hf0 := h_x0.1; have hf1 := h_x2.1; simp only [leB, decide_eq_true_eq, List.length_append, List.length_cons, List.length_nil]; omega)) (StE.bind (spec_l4Out_ev (gt x2 (i0 : Int)) ((h_x2).2 _ (gt_mem (by first | omega | (have hq := len_eq (by assumption); omega) | (have hf0 := h_x0.1; have hf1 := h_x2.1; simp only [leB, decide_eq_true_eq, List.length_append, List.length_cons, List.length_nil]; omega))))) (StE.ifh (fun hc1 => (StE.ret _)) (fun hc1 => StE.next))))) (fun j hj => by
  simp only [spec_PutCoins.l0_s]
  exact Evt.f (ge_lt hj) (Evt.self _))) (fun _ => rfl) (Evt.bind (spec_l4Of_ev x0 x1 (h_x0)) (Evt.ifh (fun hc3 => (Evt.self _)) (fun hc3 => (Evt.ifh (fun hc2 => (Evt.self _)) (fun hc2 => (Evt.bind (spec_l4Put_ev x0 x1 x2 x3 x4 (h_x0) (h_x2)) (Evt.self _)))))))))))))))))
def impl_within_v (x0 : Int) (x1 : Int) (x2 : Int) : Bool := ((decide (x1 ≤ x0)) && (decide (x0 ≤ x2)))
theorem impl_within_ev (x0 : Int) (x1 : Int) (x2 : Int)  : Evt (fun k => impl_within.f k x0 x1 x2) (impl_within_v x0 x1 x2) :=
  (Evt.self _)
def impl_isId_v (x0 : Int) : Bool := (impl_within_v x0 1 60)
theorem impl_isId_ev (x0 : Int)  : Evt (fun k => impl_isId.f k x0) (impl_isId_v x0) :=
  (Evt.bind (impl_within_ev x0 1 60) (Evt.self _))
def impl_isRef_v (x0 : Ref) : Bool := ((impl_isId_v x0.fTx) && (bif (impl_isId_v x0.fTx) then (impl_within_v x0.fAt 0 3) else default))
theorem impl_isRef_ev (x0 : Ref)  : Evt (fun k => impl_isRef.f k x0) (impl_isRef_v x0) :=
  (Evt.bind (impl_isId_ev x0.fTx) (Evt.bind (Evt.ifh (fun _ => (impl_within_ev x0.fAt 0 3)) (fun _ => Evt.self _)) (Evt.self _)))
def impl_isHeight_v (x0 : Int) : Bool := (impl_within_v x0 0 999)
theorem impl_isHeight_ev (x0 : Int)  : Evt (fun k => impl_isHeight.f k x0) (impl_isHeight_v x0) :=
  (Evt.bind (impl_within_ev x0 0 999) (Evt.self _))
def impl_isKey_v (x0 : Int) : Bool := (impl_within_v x0 1 999)
theorem impl_isKey_ev (x0 : Int)  : Evt (fun k => impl_isKey.f k x0) (impl_isKey_v x0) :=
  (Evt.bind (impl_within_ev x0 1 999) (Evt.self _))
def impl_areKeys_1_v (x0 : Int) : Bool := (!(impl_isKey_v x0))
theorem impl_areKeys_1_ev (x0 : Int)  : Evt (fun k => impl_areKeys_1.f k x0) (impl_areKeys_1_v x0) :=
  (Evt.bind (impl_isKey_ev x0) (Evt.self _))
def slices_IndexFunc_int64_v (x0 : List Int) : Int := (onO ((List.range' 0 (x0.length - 0)).findSome? (fun (i0 : Nat) => (bif (impl_areKeys_1_v (gt x0 (i0 : Int))) then (some (i0 : Int)) else none))) (fun r => r) (-1))
theorem slices_IndexFunc_int64_ev (x0 : List Int) (h_x0 : (Lm tr) x0) : Evt (fun k => slices_IndexFunc_int64.f k x0) (slices_IndexFunc_int64_v x0) :=
  (Evt.loop (r' := fun r => r) (Evt.srch (L := (fun k i => slices_IndexFunc_int64.l0 x0 k i)) 0 x0.length (by have := h_x0; first | (have := this.1; omega) | omega) (fun (i0 : Nat) => (bif (impl_areKeys_1_v (gt x0 (i0 : Int))) then (some (i0 : Int)) else none)) (fun i0 hs2 hi2 => by
  have hbn : x0.length ≤ 9223372036854775807 := (by have := h_x0; first | (have := this.1; omega) | omega)
  simp only [slices_IndexFunc_int64.l0_s]
  exact Evt_t2 (int_lt hi2) (StE.chk (by first | exact idx_ok (by omega) | exact idx_ok (by have hq := len_eq (by assumption); omega) | exact idx_found (show (0 : Int) ≤ (i0 : Int) by simp_all) | exact cut_ok (by omega) | exact or_ok (idx_ok (by omega)) | (refine or1 (fun hz => pre_ok (by simp at hz; omega) (by omega) (by omega))) | exact pre_ok (by omega) (by omega) (by omega) | (simp_all [idxOk, cutOk, leB]; done) | (simp_all [idxOk, cutOk, leB]; omega) | (simp [idxOk, cutOk, leB] at *; omega) | (have hf0 := h_x0.1; simp only [leB, decide_eq_true_eq, List.length_append, List.length_cons, List.length_nil]; omega)) (StE.bind (impl_areKeys_1_ev (gt x0 (i0 : Int))) (StE.ifh (fun hc1 => (StE.ret _)) (fun hc1 => StE.next))))) (fun j hj => by
  simp only [slices_IndexFunc_int64.l0_s]
  exact Evt.f (ge_lt hj) (Evt.self _))) (fun _ => rfl) (Evt.self _))
def slices_ContainsFunc_int64_v (x0 : List Int) : Bool := (decide (0 ≤ (slices_IndexFunc_int64_v x0)))
theorem slices_ContainsFunc_int64_ev (x0 : List Int) (h_x0 : (Lm tr) x0) : Evt (fun k => slices_ContainsFunc_int64.f k x0) (slices_ContainsFunc_int64_v x0) :=
  (Evt.bind (slices_IndexFunc_int64_ev x0 (h_x0)) (Evt.self _))
theorem slices_ContainsFunc_int64_any (x0 : List Int) : slices_ContainsFunc_int64_v x0 = (List.range' 0 (x0.length - 0)).any (fun (i0 : Nat) => (impl_areKeys_1_v (gt x0 (i0 : Int)))) := idx_any _ _
def impl_areKeys_v (x0 : List Int) : Bool := (!(slices_ContainsFunc_int64_v x0))
theorem impl_areKeys_ev (x0 : List Int) (h_x0 : (Lm tr) x0) : Evt (fun k => impl_areKeys.f k x0) (impl_areKeys_v x0) :=
  (Evt.bind (slices_ContainsFunc_int64_ev x0 (h_x0)) (Evt.self _))
def impl_isRising_v (x0 : List Int) : Bool := (onO ((List.range' 1 (x0.length - 1)).findSome? (fun (i0 : Nat) => (bif (decide ((gt x0 (i0 : Int)) ≤ (gt x0 (wrap64 ((i0 : Int) - 1))))) then (some false) else none))) (fun r => r) true)
theorem impl_isRising_ev (x0 : List Int) (h_x0 : (Lm tr) x0) : Evt (fun k => impl_isRising.f k x0) (impl_isRising_v x0) :=
  (Evt.loop (r' := fun r => r) (Evt.srch (L := (fun k i => impl_isRising.l0 x0 k i)) 1 x0.length (by have := h_x0; first | (have := this.1; omega) | omega) (fun (i0 : Nat) => (bif (decide ((gt x0 (i0 : Int)) ≤ (gt x0 (wrap64 ((i0 : Int) - 1))))) then (some false) else none)) (fun i0 hs2 hi2 => by
  have hbn : x0.length ≤ 9223372036854775807 := (by have := h_x0; first | (have := this.1; omega) | omega)
  simp only [impl_isRising.l0_s]
  exact Evt_t2 (int_lt hi2) (StE.chk (by first | exact idx_ok (by omega) | exact idx_ok (by have hq := len_eq (by assumption); omega) | exact idx_found (show (0 : Int) ≤ (i0 : Int) by simp_all) | exact cut_ok (by omega) | exact or_ok (idx_ok (by omega)) | (refine or1 (fun hz => pre_ok (by simp at hz; omega) (by omega) (by omega))) | exact pre_ok (by omega) (by omega) (by omega) | (simp_all [idxOk, cutOk, leB]; done) | (simp_all [idxOk, cutOk, leB]; omega) | (simp [idxOk, cutOk, leB] at *; omega) | (have hf0 := h_x0.1; simp only [leB, decide_eq_true_eq, List.length_append, List.length_cons, List.length_nil]; omega)) (StE.chk (by first | exact idx_ok (by omega) | exact idx_ok (by have hq := len_eq (by assumption); omega) | exact idx_found (show (0 : Int) ≤ (wrap64 ((i0 : Int) - 1)) by simp_all) | exact cut_ok (by omega) | exact or_ok (idx_ok (by omega)) | (refine or1 (fun hz => pre_ok (by simp at hz; omega) (by omega) (by omega))) | exact pre_ok (by omega) (by omega) (by omega) | (simp_all [idxOk, cutOk, leB]; done) | (simp_all [idxOk, cutOk, leB]; omega) | (simp [idxOk, cutOk, leB] at *; omega) | (have hf0 := h_x0.1; simp only [leB, decide_eq_true_eq, List.length_append, List.length_cons, List.length_nil]; omega)) (StE.ifh (fun hc1 => (StE.ret _)) (fun hc1 => StE.next))))) (fun j hj => by
  simp only [impl_isRising.l0_s]
  exact Evt.f (ge_lt hj) (Evt.self _))) (fun _ => rfl) (Evt.self _))
def impl_RuleFault_v (x0 : Rule) : Int := (bif !(impl_within_v (x0.fKeys.length : Int) 1 3) then 2 else (bif (((!(impl_areKeys_v x0.fKeys)) || (!(bif (!(!(impl_areKeys_v x0.fKeys))) then (impl_within_v x0.fNeed 1 (x0.fKeys.length : Int)) else default))) || (!(bif (!((!(impl_areKeys_v x0.fKeys)) || (!(bif (!(!(impl_areKeys_v x0.fKeys))) then (impl_within_v x0.fNeed 1 (x0.fKeys.length : Int)) else default)))) then (impl_isHeight_v x0.fAfter) else default))) then 3 else (bif !(impl_isRising_v x0.fKeys) then 1 else 0)))
theorem impl_RuleFault_ev (x0 : Rule) (h_x0 : smRule x0) : Evt (fun k => impl_RuleFault.f k x0) (impl_RuleFault_v x0) :=
  (Evt.bind (impl_within_ev (x0.fKeys.length : Int) 1 3) (Evt.ifh (fun hc2 => (Evt.self _)) (fun hc2 => (Evt.bind (impl_areKeys_ev x0.fKeys (h_x0.1)) (Evt.bind (Evt.ifh (fun _ => (impl_within_ev x0.fNeed 1 (x0.fKeys.length : Int))) (fun _ => Evt.self _)) (Evt.bind (Evt.ifh (fun _ => (impl_isHeight_ev x0.fAfter)) (fun _ => Evt.self _)) (Evt.ifh (fun hc1 => (Evt.self _)) (fun hc1 => (Evt.bind (impl_isRising_ev x0.fKeys (h_x0.1)) (Evt.ifh (fun hc0 => (Evt.self _)) (fun hc0 => (Evt.self _))))))))))))
theorem ruleFault_same (x0 : Rule) : impl_RuleFault_v x0 = spec_l2Fault_v x0 := by
  simp only [impl_RuleFault_v, spec_l2Fault_v, impl_areKeys_v, slices_ContainsFunc_int64_any, impl_areKeys_1_v, impl_isKey_v, spec_l1Key_v, impl_within_v, spec_l1In_v, impl_isHeight_v, spec_l2Height_v, impl_isRising_v, found_any]
  generalize (List.range' 0 (x0.fKeys.length - 0)).any _ = a
  generalize (List.range' 1 (x0.fKeys.length - 1)).any _ = b
  generalize (decide (1 ≤ x0.fNeed) && decide (x0.fNeed ≤ (x0.fKeys.length : Int))) = c
  generalize (decide (0 ≤ x0.fAfter) && decide (x0.fAfter ≤ 999)) = d
  generalize (decide (1 ≤ (x0.fKeys.length : Int)) && decide ((x0.fKeys.length : Int) ≤ 3)) = e
  cases a <;> cases b <;> cases c <;> cases d <;> cases e <;> rfl
def cmp_isNaN_int64_v (x0 : Int) : Bool := (x0 != x0)
theorem cmp_isNaN_int64_ev (x0 : Int)  : Evt (fun k => cmp_isNaN_int64.f k x0) (cmp_isNaN_int64_v x0) :=
  (Evt.self _)
def cmp_Compare_int64_v (x0 : Int) (x1 : Int) : Int := (bif (cmp_isNaN_int64_v x0) then (bif (cmp_isNaN_int64_v x1) then 0 else (-1)) else (bif (cmp_isNaN_int64_v x1) then 1 else (bif (decide (x0 < x1)) then (-1) else (bif (decide (x1 < x0)) then 1 else 0))))
theorem cmp_Compare_int64_ev (x0 : Int) (x1 : Int)  : Evt (fun k => cmp_Compare_int64.f k x0 x1) (cmp_Compare_int64_v x0 x1) :=
  (Evt.bind (cmp_isNaN_int64_ev x0) (Evt.bind (cmp_isNaN_int64_ev x1) (Evt.ifh (fun hc4 => (Evt.ifh (fun hc0 => (Evt.self _)) (fun hc0 => (Evt.self _)))) (fun hc4 => (Evt.ifh (fun hc3 => (Evt.self _)) (fun hc3 => (Evt.ifh (fun hc2 => (Evt.self _)) (fun hc2 => (Evt.ifh (fun hc1 => (Evt.self _)) (fun hc1 => (Evt.self _)))))))))))
def cmp_Or_int_v (x0 : List Int) : Int := (onO ((List.range' 0 (x0.length - 0)).findSome? (fun (i0 : Nat) => (bif ((gt x0 (i0 : Int)) != 0) then (some (gt x0 (i0 : Int))) else none))) (fun r => r) 0)
theorem cmp_Or_int_ev (x0 : List Int) (h_x0 : (Lm tr) x0) : Evt (fun k => cmp_Or_int.f k x0) (cmp_Or_int_v x0) :=
  (Evt.loop (r' := fun r => r) (Evt.srch (L := (fun k i => cmp_Or_int.l0 x0 k i)) 0 x0.length (by have := h_x0; first | (have := this.1; omega) | omega) (fun (i0 : Nat) => (bif ((gt x0 (i0 : Int)) != 0) then (some (gt x0 (i0 : Int))) else none)) (fun i0 hs2 hi2 => by
  have hbn : x0.length ≤ 9223372036854775807 := (by have := h_x0; first | (have := this.1; omega) | omega)
  simp only [cmp_Or_int.l0_s]
  exact Evt_t2 (int_lt hi2) (StE.chk (by first | exact idx_ok (by omega) | exact idx_ok (by have hq := len_eq (by assumption); omega) | exact idx_found (show (0 : Int) ≤ (i0 : Int) by simp_all) | exact cut_ok (by omega) | exact or_ok (idx_ok (by omega)) | (refine or1 (fun hz => pre_ok (by simp at hz; omega) (by omega) (by omega))) | exact pre_ok (by omega) (by omega) (by omega) | (simp_all [idxOk, cutOk, leB]; done) | (simp_all [idxOk, cutOk, leB]; omega) | (simp [idxOk, cutOk, leB] at *; omega) | (have hf0 := h_x0.1; simp only [leB, decide_eq_true_eq, List.length_append, List.length_cons, List.length_nil]; omega)) (StE.ifh (fun hc1 => (StE.ret _)) (fun hc1 => StE.next)))) (fun j hj => by
  simp only [cmp_Or_int.l0_s]
  exact Evt.f (ge_lt hj) (Evt.self _))) (fun _ => rfl) (Evt.self _))
def impl_compareRefs_v (x0 : Ref) (x1 : Ref) : Int := (cmp_Or_int_v ([(cmp_Compare_int64_v x0.fTx x1.fTx), (cmp_Compare_int64_v x0.fAt x1.fAt)] : List Int))
theorem impl_compareRefs_ev (x0 : Ref) (x1 : Ref)  : Evt (fun k => impl_compareRefs.f k x0 x1) (impl_compareRefs_v x0 x1) :=
  (Evt.bind (cmp_Compare_int64_ev x0.fTx x1.fTx) (Evt.bind (cmp_Compare_int64_ev x0.fAt x1.fAt) (Evt.bind (cmp_Or_int_ev ([(cmp_Compare_int64_v x0.fTx x1.fTx), (cmp_Compare_int64_v x0.fAt x1.fAt)] : List Int) ((⟨by simp, fun _ _ => trivial⟩ : Lm tr ([(cmp_Compare_int64_v x0.fTx x1.fTx), (cmp_Compare_int64_v x0.fAt x1.fAt)] : List Int)))) (Evt.self _))))
def impl_CoinsFault_v (x0 : List Coin) : Int := (bif (decide (40 < (x0.length : Int))) then 2 else (onO ((List.range' 0 (x0.length - 0)).findSome? (fun (i0 : Nat) => (bif (((!(impl_isRef_v ((gt x0 (i0 : Int)).fRef))) || (!(bif (!(!(impl_isRef_v ((gt x0 (i0 : Int)).fRef)))) then (impl_isHeight_v ((gt x0 (i0 : Int)).fHeight)) else default))) || (!(bif (!((!(impl_isRef_v ((gt x0 (i0 : Int)).fRef))) || (!(bif (!(!(impl_isRef_v ((gt x0 (i0 : Int)).fRef)))) then (impl_isHeight_v ((gt x0 (i0 : Int)).fHeight)) else default)))) then (impl_within_v ((gt x0 (i0 : Int)).fOut.fValue) 1 1000000) else default))) then (some 3) else (bif ((impl_RuleFault_v ((gt x0 (i0 : Int)).fOut.fRule)) != 0) then (some (impl_RuleFault_v ((gt x0 (i0 : Int)).fOut.fRule))) else (bif ((decide (0 < (i0 : Int))) && (decide (0 ≤ (bif (decide (0 < (i0 : Int))) then (impl_compareRefs_v ((gt x0 (wrap64 ((i0 : Int) - 1))).fRef) ((gt x0 (i0 : Int)).fRef)) else default)))) then (some 1) else none))))) (fun r => r) 0))
theorem impl_CoinsFault_ev (x0 : List Coin) (h_x0 : (Lm smCoin) x0) : Evt (fun k => impl_CoinsFault.f k x0) (impl_CoinsFault_v x0) :=
  (Evt.ifh (fun hc4 => (Evt.self _)) (fun hc4 => (Evt.loop (r' := fun r => r) (Evt.srch (L := (fun k i => impl_CoinsFault.l0 x0 k i)) 0 x0.length (by have := h_x0; first | (have := this.1; omega) | omega) (fun (i0 : Nat) => (bif (((!(impl_isRef_v ((gt x0 (i0 : Int)).fRef))) || (!(bif (!(!(impl_isRef_v ((gt x0 (i0 : Int)).fRef)))) then (impl_isHeight_v ((gt x0 (i0 : Int)).fHeight)) else default))) || (!(bif (!((!(impl_isRef_v ((gt x0 (i0 : Int)).fRef))) || (!(bif (!(!(impl_isRef_v ((gt x0 (i0 : Int)).fRef)))) then (impl_isHeight_v ((gt x0 (i0 : Int)).fHeight)) else default)))) then (impl_within_v ((gt x0 (i0 : Int)).fOut.fValue) 1 1000000) else default))) then (some 3) else (bif ((impl_RuleFault_v ((gt x0 (i0 : Int)).fOut.fRule)) != 0) then (some (impl_RuleFault_v ((gt x0 (i0 : Int)).fOut.fRule))) else (bif ((decide (0 < (i0 : Int))) && (decide (0 ≤ (bif (decide (0 < (i0 : Int))) then (impl_compareRefs_v ((gt x0 (wrap64 ((i0 : Int) - 1))).fRef) ((gt x0 (i0 : Int)).fRef)) else default)))) then (some 1) else none)))) (fun i0 hs4 hi4 => by
  have hbn : x0.length ≤ 9223372036854775807 := (by have := h_x0; first | (have := this.1; omega) | omega)
  simp only [impl_CoinsFault.l0_s]
  exact Evt_t2 (int_lt hi4) (StE.chk (by first | exact idx_ok (by omega) | exact idx_ok (by have hq := len_eq (by assumption); omega) | exact idx_found (show (0 : Int) ≤ (i0 : Int) by simp_all) | exact cut_ok (by omega) | exact or_ok (idx_ok (by omega)) | (refine or1 (fun hz => pre_ok (by simp at hz; omega) (by omega) (by omega))) | exact pre_ok (by omega) (by omega) (by omega) | (simp_all [idxOk, cutOk, leB]; done) | (simp_all [idxOk, cutOk, leB]; omega) | (simp [idxOk, cutOk, leB] at *; omega) | (have hf0 := h_x0.1; simp only [leB, decide_eq_true_eq, List.length_append, List.length_cons, List.length_nil]; omega)) (StE.bind (impl_isRef_ev ((gt x0 (i0 : Int)).fRef)) (StE.bind (Evt.ifh (fun _ => (impl_isHeight_ev ((gt x0 (i0 : Int)).fHeight))) (fun _ => Evt.self _)) (StE.bind (Evt.ifh (fun _ => (impl_within_ev ((gt x0 (i0 : Int)).fOut.fValue) 1 1000000)) (fun _ => Evt.self _)) (StE.ifh (fun hc3 => (StE.ret _)) (fun hc3 => (StE.bind (impl_RuleFault_ev ((gt x0 (i0 : Int)).fOut.fRule) ((((h_x0).2 _ (gt_mem (by first | omega | (have hq := len_eq (by assumption); omega) | (have hf0 := h_x0.1; simp only [leB, decide_eq_true_eq, List.length_append, List.length_cons, List.length_nil]; omega)))).2.1).2)) (StE.ifh (fun hc2 => (StE.ret _)) (fun hc2 => (StE.chk (by first | exact idx_ok (by omega) | exact idx_ok (by have hq := len_eq (by assumption); omega) | exact idx_found (by simp_all) | exact cut_ok (by omega) | exact or_ok (idx_ok (by omega)) | (refine or1 (fun hz => pre_ok (by simp at hz; omega) (by omega) (by omega))) | exact pre_ok (by omega) (by omega) (by omega) | (simp_all [idxOk, cutOk, leB]; done) | (simp_all [idxOk, cutOk, leB]; omega) | (simp [idxOk, cutOk, leB] at *; omega) | (have hf0 := h_x0.1; simp only [leB, decide_eq_true_eq, List.length_append, List.length_cons, List.length_nil]; omega)) (StE.bind (Evt.ifh (fun _ => (impl_compareRefs_ev ((gt x0 (wrap64 ((i0 : Int) - 1))).fRef) ((gt x0 (i0 : Int)).fRef))) (fun _ => Evt.self _)) (StE.ifh (fun hc1 => (StE.ret _)) (fun hc1 => StE.next)))))))))))))) (fun j hj => by
  simp only [impl_CoinsFault.l0_s]
  exact Evt.f (ge_lt hj) (Evt.self _))) (fun _ => rfl) (Evt.self _))))
theorem refs_same (r : Ref) : impl_isRef_v r = spec_l3Ref_v r := by simp only [impl_isRef_v, spec_l3Ref_v, impl_isId_v, impl_within_v, spec_l1In_v]
theorem or_two (p q : Int) : cmp_Or_int_v ([p, q] : List Int) = bif p != 0 then p else bif q != 0 then q else 0 := by
  show onO (([0, 1] : List Nat).findSome? fun i : Nat => bif (gt [p, q] (i : Int)) != 0 then some (gt [p, q] (i : Int)) else none) (fun r => r) 0 = _
  have e0 : gt [p, q] ((0 : Nat) : Int) = p := rfl
  have e1 : gt [p, q] ((1 : Nat) : Int) = q := rfl
  rw [List.findSome?_cons, List.findSome?_cons, List.findSome?_nil, e0, e1]
  cases (p != 0) <;> cases (q != 0) <;> rfl
theorem compare_eq (a b : Int) : cmp_Compare_int64_v a b = bif decide (a < b) then -1 else bif decide (b < a) then 1 else 0 := by
  have e : ∀ x : Int, cmp_isNaN_int64_v x = false := fun x => by simp [cmp_isNaN_int64_v]
  simp only [cmp_Compare_int64_v, e]; rfl
theorem ahead_eq (a b : Ref) : decide (0 ≤ impl_compareRefs_v a b) = !(spec_l4Ahead_v a b) := by
  have e : impl_compareRefs_v a b = bif (cmp_Compare_int64_v a.fTx b.fTx) != 0 then cmp_Compare_int64_v a.fTx b.fTx else bif (cmp_Compare_int64_v a.fAt b.fAt) != 0 then cmp_Compare_int64_v a.fAt b.fAt else 0 := or_two _ _
  rw [e, compare_eq, compare_eq]
  unfold spec_l4Ahead_v
  by_cases h1 : a.fTx < b.fTx
  · have h2 : ¬ a.fTx = b.fTx := by omega
    simp [h1, h2]
  · by_cases h2 : b.fTx < a.fTx
    · have h3 : ¬ a.fTx = b.fTx := by omega
      simp [h1, h2, h3]
    · have h3 : a.fTx = b.fTx := by omega
      by_cases h4 : a.fAt < b.fAt
      · simp [h3, h4]
      · by_cases h5 : b.fAt < a.fAt
        · simp [h3, h4, h5]
        · simp [h3, h4, h5]
theorem coinsFault_same (x0 : List Coin) : impl_CoinsFault_v x0 = spec_l4Fault_v x0 := by
  unfold impl_CoinsFault_v spec_l4Fault_v
  congr 2
  refine fs_congr fun i hi => ?_
  simp only [refs_same, ruleFault_same, spec_l4Out_v]
  have e1 : ∀ n a b : Int, impl_within_v n a b = spec_l1In_v n a b := fun _ _ _ => rfl
  have e2 : ∀ n : Int, impl_isHeight_v n = spec_l2Height_v n := fun _ => rfl
  have e3 : (decide (0 < (i : Int)) && decide (0 ≤ (bif decide (0 < (i : Int)) then impl_compareRefs_v (gt x0 (wrap64 ((i : Int) - 1))).fRef (gt x0 (i : Int)).fRef else default))) =
      (decide (0 < (i : Int)) && !(bif decide (0 < (i : Int)) then spec_l4Ahead_v (gt x0 (wrap64 ((i : Int) - 1))).fRef (gt x0 (i : Int)).fRef else default)) := by
    cases decide (0 < (i : Int))
    · rfl
    · exact ahead_eq _ _
  rw [e3]
  simp only [e1, e2]
  generalize (decide (0 < (i : Int)) && !(bif decide (0 < (i : Int)) then spec_l4Ahead_v (gt x0 (wrap64 ((i : Int) - 1))).fRef (gt x0 (i : Int)).fRef else default)) = z
  generalize spec_l3Ref_v (gt x0 (i : Int)).fRef = a
  generalize spec_l2Height_v (gt x0 (i : Int)).fHeight = b
  generalize spec_l1In_v (gt x0 (i : Int)).fOut.fValue 1 1000000 = c
  cases a <;> cases b <;> cases c <;> rfl
theorem rising (f : Nat → Int) (n : Nat) (h : ∀ i, i + 1 < n → f i < f (i + 1)) : ∀ d a, a + d + 1 < n → f a < f (a + d + 1)
  | 0, a, hb => h a hb
  | d + 1, a, hb => by
    have h1 := rising f n h d a (by omega)
    have h2 := h (a + d + 1) hb
    have e : a + (d + 1) + 1 = a + d + 1 + 1 := by omega
    rw [e]; omega
theorem compare_lt (a b : Int) : cmp_Compare_int64_v a b < 0 ↔ a < b := by
  rw [compare_eq]
  by_cases h : a < b
  · simp [h]
  · by_cases h2 : b < a <;> simp [h, h2]
theorem compare_zero (a b : Int) : cmp_Compare_int64_v a b = 0 ↔ a = b := by
  rw [compare_eq]
  by_cases h : a < b
  · simp [h]; omega
  · by_cases h2 : b < a
    · simp [h, h2]; omega
    · simp [h, h2]; omega
def lexL (a b : Ref) : Prop := a.fTx < b.fTx ∨ a.fTx = b.fTx ∧ a.fAt < b.fAt
theorem risingR {R : Nat → Nat → Prop} (n : Nat) (tr : ∀ a b c, c < n → R a b → R b c → R a c) (h : ∀ i, i + 1 < n → R i (i + 1)) : ∀ d a, a + d + 1 < n → R a (a + d + 1)
  | 0, a, hb => h a hb
  | d + 1, a, hb => tr _ _ _ hb (risingR n tr h d a (by omega)) (h (a + d + 1) hb)
theorem compareRefs_lt (a b : Ref) : impl_compareRefs_v a b < 0 ↔ lexL a b := by
  have e : impl_compareRefs_v a b = bif (cmp_Compare_int64_v a.fTx b.fTx) != 0 then cmp_Compare_int64_v a.fTx b.fTx else bif (cmp_Compare_int64_v a.fAt b.fAt) != 0 then cmp_Compare_int64_v a.fAt b.fAt else 0 := or_two _ _
  rw [e, compare_eq, compare_eq]
  unfold lexL
  by_cases h1 : a.fTx < b.fTx
  · simp [h1]
  · by_cases h2 : b.fTx < a.fTx
    · simp [h1, h2]; omega
    · have h3 : a.fTx = b.fTx := by omega
      by_cases h4 : a.fAt < b.fAt
      · simp [h3, h4]
      · by_cases h5 : b.fAt < a.fAt
        · simp [h3, h4, h5]
        · simp [h3, h4, h5]
theorem compareRefs_zero (a b : Ref) : impl_compareRefs_v a b = 0 ↔ a.fTx = b.fTx ∧ a.fAt = b.fAt := by
  have e : impl_compareRefs_v a b = bif (cmp_Compare_int64_v a.fTx b.fTx) != 0 then cmp_Compare_int64_v a.fTx b.fTx else bif (cmp_Compare_int64_v a.fAt b.fAt) != 0 then cmp_Compare_int64_v a.fAt b.fAt else 0 := or_two _ _
  rw [e, compare_eq, compare_eq]
  by_cases h1 : a.fTx < b.fTx
  · simp [h1]; omega
  · by_cases h2 : b.fTx < a.fTx
    · simp [h1, h2]; omega
    · have h3 : a.fTx = b.fTx := by omega
      by_cases h4 : a.fAt < b.fAt
      · simp [h3, h4]; omega
      · by_cases h5 : b.fAt < a.fAt
        · simp [h3, h4, h5]; omega
        · have h6 : a.fAt = b.fAt := by omega
          simp [h3, h6]
theorem ahead_lex (a b : Ref) : spec_l4Ahead_v a b = true ↔ lexL a b := by
  unfold spec_l4Ahead_v lexL
  by_cases h : a.fTx = b.fTx
  · simp [h]
  · have h2 : (a.fTx != b.fTx) = true := by simp [h]
    rw [h2]; simp; omega
theorem three_ne (a : Bool) (q : Int) (b : Bool) : (bif a then some (3 : Int) else bif q != 0 then some q else bif b then some 1 else none) ≠ some 0 := by
  cases a
  · cases hq : q != 0
    · cases b <;> simp
    · simp at hq; simpa using hq
  · simp
theorem three_none {a : Bool} {q : Int} {b : Bool} (h : (bif a then some (3 : Int) else bif q != 0 then some q else bif b then some 1 else none) = none) : b = false := by
  cases a
  · cases hq : q != 0
    · rw [hq] at h; cases b
      · rfl
      · cases h
    · rw [hq] at h; cases h
  · cases h
theorem coins_step (x0 : List Coin) (hl : x0.length ≤ 1048576) (h : spec_l4Fault_v x0 = 0) : ∀ i, i + 1 < x0.length → lexL (gt x0 (i : Int)).fRef (gt x0 ((i + 1 : Nat) : Int)).fRef := by
  intro i hi
  unfold spec_l4Fault_v at h
  cases hc : decide (40 < (x0.length : Int))
  · rw [hc] at h
    obtain ⟨h1, _⟩ := onO_zero h (fun i => three_ne _ _ _)
    have h2 := three_none (fs_all h1 (i + 1) hi)
    have e : wrap64 (((i + 1 : Nat) : Int) - 1) = (i : Int) := by have := wrap64_in (((i + 1 : Nat) : Int) - 1) (by omega); rw [this]; omega
    have e2 : decide (0 < ((i + 1 : Nat) : Int)) = true := decide_eq_true (by omega)
    rw [e, e2] at h2
    rw [← ahead_lex]
    cases hq : spec_l4Ahead_v (gt x0 (i : Int)).fRef (gt x0 ((i + 1 : Nat) : Int)).fRef
    · rw [hq] at h2; cases h2
    · rfl
  · rw [hc] at h; exact absurd (show (2 : Int) = 0 from h) (by decide)
theorem lex_trans {a b c : Ref} (h : lexL a b) (k : lexL b c) : lexL a c := by unfold lexL at *; omega
theorem coins_lt (x0 : List Coin) (hl : x0.length ≤ 1048576) (h : spec_l4Fault_v x0 = 0) (a b : Nat) (hab : a < b) (hb : b < x0.length) : lexL (gt x0 (a : Int)).fRef (gt x0 (b : Int)).fRef := by
  have := risingR (R := fun a b => lexL (gt x0 (a : Int)).fRef (gt x0 (b : Int)).fRef) x0.length (fun a b c _ h k => lex_trans h k) (coins_step x0 hl h) (b - a - 1) a (by omega)
  have e : a + (b - a - 1) + 1 = b := by omega
  rw [e] at this
  exact this
/-- In a row whose refs rise: what is found. -/
def Rise (xs : List Coin) : Prop := xs.length ≤ 1048576 ∧ xs.Pairwise fun a b => lexL a.fRef b.fRef
theorem Rise.lt {xs : List Coin} (h : Rise xs) (a b : Nat) (hab : a < b) (hb : b < xs.length) : lexL (gt xs (a : Int)).fRef (gt xs (b : Int)).fRef := by
  rw [gt_eq (by simp; omega), gt_eq (by simpa using hb)]
  exact (List.pairwise_iff_getElem.1 h.2) _ _ _ _ (by simpa using hab)
theorem Rise.of {xs : List Coin} (hl : xs.length ≤ 1048576) (h : ∀ a b : Nat, a < b → b < xs.length → lexL (gt xs (a : Int)).fRef (gt xs (b : Int)).fRef) : Rise xs := by
  refine ⟨hl, List.pairwise_iff_getElem.2 fun i j hi hj hij => ?_⟩
  have := h i j hij hj
  rw [gt_eq (by simpa using hi), gt_eq (by simpa using hj)] at this
  simpa using this
theorem Rise.sub {xs ys : List Coin} (h : Rise xs) (s : ys.Sublist xs) : Rise ys := ⟨Nat.le_trans s.length_le h.1, h.2.sublist s⟩
theorem rise_of {x0 : List Coin} (h0 : Lm smCoin x0) (h : spec_l4Fault_v x0 = 0) : Rise x0 := Rise.of h0.1 (coins_lt x0 h0.1 h)
theorem fault_len {x0 : List Coin} (h : spec_l4Fault_v x0 = 0) : x0.length ≤ 40 := by
  unfold spec_l4Fault_v at h
  by_cases hc : x0.length ≤ 40
  · exact hc
  · have : decide (40 < (x0.length : Int)) = true := by simp; omega
    rw [this] at h
    exact absurd (show (2 : Int) = 0 from h) (by decide)
def kLt (a b : Int × Int) : Prop := a.1 < b.1 ∨ a.1 = b.1 ∧ a.2 < b.2
theorem rise_keys {xs : List Coin} (h : xs.Pairwise fun a b => lexL a.fRef b.fRef) : (xs.map refKey).Nodup := by
  unfold List.Nodup
  rw [List.pairwise_map]
  refine h.imp fun {a b} hab e => ?_
  unfold refKey at e
  have e1 := (Prod.mk.inj e).1; have e2 := (Prod.mk.inj e).2
  unfold lexL at hab; omega
theorem lex_le {a b : Coin} (h : lexL a.fRef b.fRef) : refLe a b = true := by
  rw [refLe_iff]; unfold lexL at h; omega
/-- What rises, and is made of the same, is what the sort makes. -/
theorem sort_uniq {xs ys : List Coin} (hp : ys.Perm xs) (hr : ys.Pairwise fun a b => lexL a.fRef b.fRef) : xs.mergeSort refLe = ys := by
  have hms : (xs.mergeSort refLe).Pairwise (fun a b => refLe a b = true) := List.pairwise_mergeSort (fun a b c h1 h2 => by rw [refLe_iff] at *; omega) (fun a b => by
    rw [Bool.or_eq_true, refLe_iff, refLe_iff]; omega) xs
  have hpm : (xs.mergeSort refLe).Perm ys := (List.mergeSort_perm xs refLe).trans hp.symm
  refine sorted_uniq hpm hms (hr.imp lex_le) (fun a ha b hb h1 h2 => ?_)
  refine key_inj (rise_keys hr) a (hpm.mem_iff.1 ha) b (hpm.mem_iff.1 hb) ?_
  rw [refLe_iff] at h1 h2
  have e1 : a.fRef.fTx = b.fRef.fTx := by omega
  have e2 : a.fRef.fAt = b.fRef.fAt := by omega
  unfold refKey
  rw [e1, e2]
def impl_outFault_v (x0 : Out) : Int := (bif !(impl_within_v x0.fValue 1 1000000) then 3 else (impl_RuleFault_v x0.fRule))
theorem impl_outFault_ev (x0 : Out) (h_x0 : smOut x0) : Evt (fun k => impl_outFault.f k x0) (impl_outFault_v x0) :=
  (Evt.bind (impl_within_ev x0.fValue 1 1000000) (Evt.ifh (fun hc0 => (Evt.self _)) (fun hc0 => (Evt.bind (impl_RuleFault_ev x0.fRule (h_x0.2)) (Evt.self _)))))
def impl_hasTx_1_v (x0 : Coin) (x1 : Int) : Bool := (x0.fRef.fTx == x1)
theorem impl_hasTx_1_ev (x0 : Coin) (x1 : Int) (h_x0 : smCoin x0) : Evt (fun k => impl_hasTx_1.f k x0 x1) (impl_hasTx_1_v x0 x1) :=
  (Evt.self _)
def slices_IndexFunc_impl_Coin_v (x0 : List Coin) (x1_0 : Int) : Int := (onO ((List.range' 0 (x0.length - 0)).findSome? (fun (i0 : Nat) => (bif (impl_hasTx_1_v (gt x0 (i0 : Int)) x1_0) then (some (i0 : Int)) else none))) (fun r => r) (-1))
theorem slices_IndexFunc_impl_Coin_ev (x0 : List Coin) (x1_0 : Int) (h_x0 : (Lm smCoin) x0) : Evt (fun k => slices_IndexFunc_impl_Coin.f k x0 x1_0) (slices_IndexFunc_impl_Coin_v x0 x1_0) :=
  (Evt.loop (r' := fun r => r) (Evt.srch (L := (fun k i => slices_IndexFunc_impl_Coin.l0 x0 x1_0 k i)) 0 x0.length (by have := h_x0; first | (have := this.1; omega) | omega) (fun (i0 : Nat) => (bif (impl_hasTx_1_v (gt x0 (i0 : Int)) x1_0) then (some (i0 : Int)) else none)) (fun i0 hs2 hi2 => by
  have hbn : x0.length ≤ 9223372036854775807 := (by have := h_x0; first | (have := this.1; omega) | omega)
  simp only [slices_IndexFunc_impl_Coin.l0_s]
  exact Evt_t2 (int_lt hi2) (StE.chk (by first | exact idx_ok (by omega) | exact idx_ok (by have hq := len_eq (by assumption); omega) | exact idx_found (show (0 : Int) ≤ (i0 : Int) by simp_all) | exact cut_ok (by omega) | exact or_ok (idx_ok (by omega)) | (refine or1 (fun hz => pre_ok (by simp at hz; omega) (by omega) (by omega))) | exact pre_ok (by omega) (by omega) (by omega) | (simp_all [idxOk, cutOk, leB]; done) | (simp_all [idxOk, cutOk, leB]; omega) | (simp [idxOk, cutOk, leB] at *; omega) | (have hf0 := h_x0.1; simp only [leB, decide_eq_true_eq, List.length_append, List.length_cons, List.length_nil]; omega)) (StE.bind (impl_hasTx_1_ev (gt x0 (i0 : Int)) x1_0 ((h_x0).2 _ (gt_mem (by first | omega | (have hq := len_eq (by assumption); omega) | (have hf0 := h_x0.1; simp only [leB, decide_eq_true_eq, List.length_append, List.length_cons, List.length_nil]; omega))))) (StE.ifh (fun hc1 => (StE.ret _)) (fun hc1 => StE.next))))) (fun j hj => by
  simp only [slices_IndexFunc_impl_Coin.l0_s]
  exact Evt.f (ge_lt hj) (Evt.self _))) (fun _ => rfl) (Evt.self _))
def slices_ContainsFunc_impl_Coin_v (x0 : List Coin) (x1_0 : Int) : Bool := (decide (0 ≤ (slices_IndexFunc_impl_Coin_v x0 x1_0)))
theorem slices_ContainsFunc_impl_Coin_ev (x0 : List Coin) (x1_0 : Int) (h_x0 : (Lm smCoin) x0) : Evt (fun k => slices_ContainsFunc_impl_Coin.f k x0 x1_0) (slices_ContainsFunc_impl_Coin_v x0 x1_0) :=
  (Evt.bind (slices_IndexFunc_impl_Coin_ev x0 x1_0 (h_x0)) (Evt.self _))
theorem slices_ContainsFunc_impl_Coin_any (x0 : List Coin) (x1_0 : Int) : slices_ContainsFunc_impl_Coin_v x0 x1_0 = (List.range' 0 (x0.length - 0)).any (fun (i0 : Nat) => (impl_hasTx_1_v (gt x0 (i0 : Int)) x1_0)) := idx_any _ _
def impl_hasTx_v (x0 : List Coin) (x1 : Int) : Bool := (slices_ContainsFunc_impl_Coin_v x0 x1)
theorem impl_hasTx_ev (x0 : List Coin) (x1 : Int) (h_x0 : (Lm smCoin) x0) : Evt (fun k => impl_hasTx.f k x0 x1) (impl_hasTx_v x0 x1) :=
  (Evt.bind (slices_ContainsFunc_impl_Coin_ev x0 x1 (h_x0)) (Evt.self _))
def slices_Clone_int64_v (x0 : List Int) : (List Int) := (([] : List Int) ++ x0)
theorem slices_Clone_int64_ev (x0 : List Int) (h_x0 : (Lm tr) x0) : Evt (fun k => slices_Clone_int64.f k x0) (slices_Clone_int64_v x0) :=
  (Evt.chk (by first | exact idx_ok (by omega) | exact idx_ok (by have hq := len_eq (by assumption); omega) | exact idx_found (by simp_all) | exact cut_ok (by omega) | exact or_ok (idx_ok (by omega)) | (refine or1 (fun hz => pre_ok (by simp at hz; omega) (by omega) (by omega))) | exact pre_ok (by omega) (by omega) (by omega) | (simp_all [idxOk, cutOk, leB]; done) | (simp_all [idxOk, cutOk, leB]; omega) | (simp [idxOk, cutOk, leB] at *; omega) | (have hf0 := h_x0.1; simp only [leB, decide_eq_true_eq, List.length_append, List.length_cons, List.length_nil]; omega)) (Evt.self _))
def impl_ownRule_v (x0 : Rule) : Rule := (⟨(slices_Clone_int64_v x0.fKeys), x0.fNeed, x0.fAfter⟩ : Rule)
theorem impl_ownRule_ev (x0 : Rule) (h_x0 : smRule x0) : Evt (fun k => impl_ownRule.f k x0) (impl_ownRule_v x0) :=
  (Evt.bind (slices_Clone_int64_ev x0.fKeys (h_x0.1)) (Evt.self _))
def impl_ownOut_v (x0 : Out) : Out := (⟨x0.fValue, (impl_ownRule_v x0.fRule)⟩ : Out)
theorem impl_ownOut_ev (x0 : Out) (h_x0 : smOut x0) : Evt (fun k => impl_ownOut.f k x0) (impl_ownOut_v x0) :=
  (Evt.bind (impl_ownRule_ev x0.fRule (h_x0.2)) (Evt.self _))
def impl_ownCoins_v (x0 : List Coin) : (List Coin) := ((List.range' 0 (x0.length - 0)).foldl (fun ac1 (i0 : Nat) => ((ac1 ++ ([(⟨(gt x0 (i0 : Int)).fRef, (impl_ownOut_v ((gt x0 (i0 : Int)).fOut)), (gt x0 (i0 : Int)).fHeight, (gt x0 (i0 : Int)).fMined⟩ : Coin)] : List Coin)))) ([] : List Coin))
theorem impl_ownCoins_ev (x0 : List Coin) (h_x0 : (Lm smCoin) x0) : Evt (fun k => impl_ownCoins.f k x0) (impl_ownCoins_v x0) :=
  (Evt.bind (Evt.gatherL (L := (fun k ac i => impl_ownCoins.l0 x0 k ac i)) x0.length (by have := h_x0; first | (have := this.1; omega) | omega) (fun ac1 (i0 : Nat) => ((ac1 ++ ([(⟨(gt x0 (i0 : Int)).fRef, (impl_ownOut_v ((gt x0 (i0 : Int)).fOut)), (gt x0 (i0 : Int)).fHeight, (gt x0 (i0 : Int)).fMined⟩ : Coin)] : List Coin)))) (fun i0 hi1 ac1 hgl => (by first | (simp only [List.length_append, List.length_cons, List.length_nil]; omega) | omega)) (fun i0 hi1 ac1 hgl o hg => by
  have hbn : x0.length ≤ 1048576 := (by have := h_x0; first | (have := this.1; omega) | omega)
  simp only [impl_ownCoins.l0_s]
  exact Evt.t (int_lt hi1) (Evt.chk (by first | (simp only [leB, decide_eq_true_eq, List.length_append, List.length_cons, List.length_nil]; omega) | exact idx_ok (by omega) | exact idx_ok (by have hq := len_eq (by assumption); omega) | exact idx_found (by simp_all) | exact cut_ok (by omega) | exact or_ok (idx_ok (by omega)) | (refine or1 (fun hz => pre_ok (by simp at hz; omega) (by omega) (by omega))) | exact pre_ok (by omega) (by omega) (by omega) | (simp_all [idxOk, cutOk, leB]; done) | (simp_all [idxOk, cutOk, leB]; omega) | (simp [idxOk, cutOk, leB] at *; omega) | (have hf0 := h_x0.1; simp only [leB, decide_eq_true_eq, List.length_append, List.length_cons, List.length_nil]; omega)) (Evt.bind (impl_ownOut_ev ((gt x0 (i0 : Int)).fOut) (((h_x0).2 _ (gt_mem (by first | omega | (have hq := len_eq (by assumption); omega) | (have hf0 := h_x0.1; simp only [leB, decide_eq_true_eq, List.length_append, List.length_cons, List.length_nil]; omega)))).2.1)) (Evt.chk (by first | (simp only [leB, decide_eq_true_eq, List.length_append, List.length_cons, List.length_nil]; omega) | exact idx_ok (by omega) | exact idx_ok (by have hq := len_eq (by assumption); omega) | exact idx_found (by simp_all) | exact cut_ok (by omega) | exact or_ok (idx_ok (by omega)) | (refine or1 (fun hz => pre_ok (by simp at hz; omega) (by omega) (by omega))) | exact pre_ok (by omega) (by omega) (by omega) | (simp_all [idxOk, cutOk, leB]; done) | (simp_all [idxOk, cutOk, leB]; omega) | (simp [idxOk, cutOk, leB] at *; omega) | (have hf0 := h_x0.1; simp only [leB, decide_eq_true_eq, List.length_append, List.length_cons, List.length_nil]; omega)) hg)))) (fun j ac hj => by
  simp only [impl_ownCoins.l0_s]
  exact Evt.f (ge_lt hj) (Evt.self _))) (Evt.self _))
theorem ownRule_id (r : Rule) : impl_ownRule_v r = r := by simp [impl_ownRule_v, slices_Clone_int64_v]
theorem ownOut_id (x : Out) : impl_ownOut_v x = x := by simp [impl_ownOut_v, ownRule_id]
theorem ownCoins_id (x0 : List Coin) : impl_ownCoins_v x0 = x0 := by
  have h := range_foldl x0 (fun ac (x : Coin) => ac ++ [(⟨x.fRef, impl_ownOut_v x.fOut, x.fHeight, x.fMined⟩ : Coin)]) []
  refine Eq.trans h ?_
  rw [fold_map]
  simp only [ownOut_id]
  simp
def impl_sorted_1_v (x0 : Coin) (x1 : Coin) : Int := (impl_compareRefs_v x0.fRef x1.fRef)
theorem impl_sorted_1_ev (x0 : Coin) (x1 : Coin) (h_x0 : smCoin x0) (h_x1 : smCoin x1) : Evt (fun k => impl_sorted_1.f k x0 x1) (impl_sorted_1_v x0 x1) :=
  (Evt.bind (impl_compareRefs_ev x0.fRef x1.fRef) (Evt.self _))
def slices_SortFunc_Coin_v (x0 : List Coin) : List Coin := x0.mergeSort refLe
theorem sortFunc_ev (x0 : List Coin) (hn : x0.length ≤ 1000000) (hd : (x0.map refKey).Nodup) : Evt (fun k => slices_SortFunc_Coin.f k x0) (x0.mergeSort refLe) := by
  refine Evt.chk ?_ (Evt.self _)
  rw [leB_of hn, decide_eq_true hd]; rfl
theorem sort_len (x0 : List Coin) : (x0.mergeSort refLe).length = x0.length := (List.mergeSort_perm x0 refLe).length_eq
theorem sorted_ev (x0 : List Coin) (hn : x0.length ≤ 1000000) (hd : (x0.map refKey).Nodup) : Evt (fun k => impl_sorted.f k x0) (x0.mergeSort refLe) := Evt.bind (sortFunc_ev x0 hn hd) (Evt.self _)
theorem l4Add_rise (x : Coin) : ∀ (l : List Coin), l.Pairwise (fun a b => lexL a.fRef b.fRef) → (∀ c ∈ l, refKey c ≠ refKey x) → (spec_l4Add_v l x).Pairwise (fun a b => lexL a.fRef b.fRef)
  | [], _, _ => by rw [l4Add_nil]; simp
  | c :: l, h, hx => by
    rw [List.pairwise_cons] at h
    rw [l4Add_cons]
    by_cases hc : spec_l4Ahead_v c.fRef x.fRef = true
    · rw [if_pos hc, List.pairwise_cons]
      refine ⟨fun y hy => ?_, l4Add_rise x l h.2 (fun d hd => hx d (by simp [hd]))⟩
      have hy' := (l4Add_perm x l).mem_iff.1 hy
      rcases List.mem_append.1 hy' with hy' | hy'
      · exact h.1 y hy'
      · simp at hy'; subst hy'; exact (ahead_lex _ _).1 hc
    · rw [if_neg hc, List.pairwise_cons, List.pairwise_cons]
      have hxc : lexL x.fRef c.fRef := by
        have h1 : ¬ lexL c.fRef x.fRef := fun h => hc ((ahead_lex _ _).2 h)
        have h2 := hx c (by simp)
        unfold lexL at *
        have h3 : ¬ (c.fRef.fTx = x.fRef.fTx ∧ c.fRef.fAt = x.fRef.fAt) := fun e => h2 (by unfold refKey; rw [e.1, e.2])
        omega
      refine ⟨fun y hy => ?_, h.1, h.2⟩
      rcases List.mem_cons.1 hy with rfl | hy
      · exact hxc
      · exact lex_trans hxc (h.1 y hy)
theorem l4Put_rise (x1 x3 : Int) (x4 : Bool) (x2 : List Out) : ∀ (d i : Nat) (ac : List Coin), ac.Pairwise (fun a b => lexL a.fRef b.fRef) → (∀ c ∈ ac, c.fRef.fTx = x1 → c.fRef.fAt < (i : Int)) → ((List.range' i d).foldl (fun ac i => spec_l4Add_v ac (newAt x1 x3 x4 x2 i)) ac).Pairwise (fun a b => lexL a.fRef b.fRef)
  | 0, i, ac, h, _ => h
  | d + 1, i, ac, h, hx => by
    rw [List.range'_succ, List.foldl_cons]
    refine l4Put_rise x1 x3 x4 x2 d (i + 1) _ (l4Add_rise _ ac h (fun c hc e => ?_)) (fun c hc e => ?_)
    · have e1 := (Prod.mk.inj (show (c.fRef.fTx, c.fRef.fAt) = (x1, (i : Int)) from e)).1
      have e2 := (Prod.mk.inj (show (c.fRef.fTx, c.fRef.fAt) = (x1, (i : Int)) from e)).2
      have := hx c hc e1
      omega
    · rcases List.mem_append.1 ((l4Add_perm _ ac).mem_iff.1 hc) with hc | hc
      · have := hx c hc e; omega
      · simp at hc; subst hc
        show (i : Int) < _
        omega
theorem l4Put_sort (x0 : List Coin) (x1 : Int) (x2 : List Out) (x3 : Int) (x4 : Bool) (h : Rise x0) (hno : ∀ c ∈ x0, c.fRef.fTx ≠ x1) : (spec_l4Put_v x0 x1 x2 x3 x4).Pairwise (fun a b => lexL a.fRef b.fRef) ∧ (x0 ++ news x1 x3 x4 x2).mergeSort refLe = spec_l4Put_v x0 x1 x2 x3 x4 ∧ ((x0 ++ news x1 x3 x4 x2).map refKey).Nodup := by
  have h1 : (spec_l4Put_v x0 x1 x2 x3 x4).Pairwise (fun a b => lexL a.fRef b.fRef) := l4Put_rise x1 x3 x4 x2 x2.length 0 x0 h.2 (fun c hc e => absurd e (hno c hc))
  have h2 : (spec_l4Put_v x0 x1 x2 x3 x4).Perm (x0 ++ news x1 x3 x4 x2) := l4Put_perm x1 x3 x4 x2 _ x0
  exact ⟨h1, sort_uniq h2 h1, ((h2.map refKey).nodup_iff).1 (rise_keys h1)⟩
theorem hasTx_no {x0 : List Coin} {x1 : Int} (h : impl_hasTx_v x0 x1 = false) : ∀ c ∈ x0, c.fRef.fTx ≠ x1 := fun c hc e => by
  unfold impl_hasTx_v at h
  rw [slices_ContainsFunc_impl_Coin_any, List.any_eq_false] at h
  obtain ⟨i, hi, rfl⟩ := List.getElem_of_mem hc
  have := h i (by rw [List.mem_range'_1]; omega)
  unfold impl_hasTx_1_v at this
  rw [gt_eq (by simpa using hi)] at this
  simp only [Int.toNat_natCast] at this
  exact this (by simpa using e)
theorem putCoins_l1 (x1 x3 : Int) (x4 : Bool) (x2 : List Out) (h_x2 : Lm smOut x2) : ∀ (d i : Nat) (ac : List Coin), i + d = x2.length → ac.length + d ≤ 10000000 → Evt (fun k => impl_putCoins.l1 x1 x2 x3 x4 k ac (i : Int)) (ac ++ (List.range' i d).map (newAt x1 x3 x4 x2))
  | 0, i, ac, hi, ha => by
    refine Evt.s ?_
    simp only [impl_putCoins.l1_s]
    exact Evt.f (ge_lt (by omega)) (Evt.ret (by simp))
  | d + 1, i, ac, hi, ha => by
    have hlt : i < x2.length := by omega
    have hn := h_x2.1
    refine Evt.s ?_
    simp only [impl_putCoins.l1_s]
    refine Evt.t (int_lt hlt) (Evt.chk (idx_ok hlt) (Evt.bind (impl_ownOut_ev _ (h_x2.2 _ (gt_mem hlt))) (Evt.chk (leB_of (by simp; omega)) ?_)))
    rw [w64 hlt (by omega), ownOut_id]
    refine (putCoins_l1 x1 x3 x4 x2 h_x2 d (i + 1) _ (by omega) (by simp; omega)).to ?_
    rw [List.range'_succ, List.map_cons]
    simp [newAt]
def impl_putCoins_v (x0 : List Coin) (x1 : Int) (x2 : List Out) (x3 : Int) (x4 : Bool) : (List Coin) × Int := (bif ((!(impl_isId_v x1)) || (!(bif (!(!(impl_isId_v x1))) then (impl_isHeight_v x3) else default))) then (([] : List Coin), 3) else (bif (decide (4 < (x2.length : Int))) then (([] : List Coin), 2) else (onO ((List.range' 0 (x2.length - 0)).findSome? (fun (i0 : Nat) => (bif ((impl_outFault_v (gt x2 (i0 : Int))) != 0) then (some (([] : List Coin), (impl_outFault_v (gt x2 (i0 : Int))))) else none))) (fun r => r) (bif (impl_hasTx_v x0 x1) then (([] : List Coin), 7) else (bif (decide (40 < (wrap64 ((x0.length : Int) + (x2.length : Int))))) then (([] : List Coin), 2) else (((x0 ++ news x1 x3 x4 x2).mergeSort refLe), 0))))))
theorem impl_putCoins_ev (x0 : List Coin) (x1 : Int) (x2 : List Out) (x3 : Int) (x4 : Bool) (h_x0 : (Lm smCoin) x0) (h_x2 : (Lm smOut) x2) (hr : Rise x0) (h40 : x0.length ≤ 40) : Evt (fun k => impl_putCoins.f k x0 x1 x2 x3 x4) (impl_putCoins_v x0 x1 x2 x3 x4) :=
  (Evt.bind (impl_isId_ev x1) (Evt.bind (Evt.ifh (fun _ => (impl_isHeight_ev x3)) (fun _ => Evt.self _)) (Evt.ifh (fun hc6 => (Evt.self _)) (fun hc6 => (Evt.ifh (fun hc5 => (Evt.self _)) (fun hc5 => (Evt.loop (r' := fun r => r) (Evt.srch (L := (fun k i => impl_putCoins.l0 x2 k i)) 0 x2.length (by have := h_x2.1; omega) (fun (i0 : Nat) => (bif ((impl_outFault_v (gt x2 (i0 : Int))) != 0) then (some (([] : List Coin), (impl_outFault_v (gt x2 (i0 : Int))))) else none)) (fun i0 hs2 hi2 => by
  simp only [impl_putCoins.l0_s]
  exact Evt_t2 (int_lt hi2) (StE.chk (idx_ok (by omega)) (StE.bind (impl_outFault_ev (gt x2 (i0 : Int)) (h_x2.2 _ (gt_mem (by omega)))) (StE.ifh (fun hc1 => (StE.ret _)) (fun hc1 => StE.next))))) (fun j hj => by
  simp only [impl_putCoins.l0_s]
  exact Evt.f (ge_lt hj) (Evt.self _))) (fun _ => rfl) (Evt.bind (impl_hasTx_ev x0 x1 (h_x0)) (Evt.ifh (fun hc4 => (Evt.self _)) (fun hc4 => (Evt.ifh (fun hc3 => (Evt.self _)) (fun hc3 => by
  have hn2 : x2.length ≤ 4 := by have := of_decide_eq_false hc5; omega
  have eo := impl_ownCoins_ev x0 h_x0
  rw [ownCoins_id] at eo
  have hns : (x0 ++ news x1 x3 x4 x2).length ≤ 1000000 := by unfold news; simp; omega
  exact Evt.bind eo (Evt.bind (putCoins_l1 x1 x3 x4 x2 h_x2 x2.length 0 x0 (by omega) (by omega)) (Evt.bind (sorted_ev _ hns (l4Put_sort x0 x1 x2 x3 x4 hr (hasTx_no hc4)).2.2) (Evt.self _)))))))))))))))
def impl_PutCoins_v (x0 : List Coin) (x1 : Int) (x2 : List Out) (x3 : Int) (x4 : Bool) : CoinsResult := bif (impl_CoinsFault_v x0 != 0) then ⟨impl_CoinsFault_v x0, []⟩ else ⟨(impl_putCoins_v x0 x1 x2 x3 x4).2, (impl_putCoins_v x0 x1 x2 x3 x4).1⟩
theorem impl_PutCoins_ev (x0 : List Coin) (x1 : Int) (x2 : List Out) (x3 : Int) (x4 : Bool) (h_x0 : (Lm smCoin) x0) (h_x2 : (Lm smOut) x2) : Evt (fun k => impl_PutCoins.f k x0 x1 x2 x3 x4) (impl_PutCoins_v x0 x1 x2 x3 x4) := by
  refine Evt.bind (impl_CoinsFault_ev x0 h_x0) (Evt.ifh (fun hc => Evt.self _) (fun hc => ?_))
  rw [coinsFault_same] at hc
  have h0 : spec_l4Fault_v x0 = 0 := by simpa using hc
  exact Evt.bind (impl_putCoins_ev x0 x1 x2 x3 x4 h_x0 h_x2 (rise_of h_x0 h0) (fault_len h0)) (Evt.self _)
theorem eqRef_ev (x : Ref) (h : smRef x) : Evt (fun k => laws_eqRef.f k x x) true := Evt.f (by simp [sEq_refl]) (Evt.f (by simp [sEq_refl]) (Evt.self _))
theorem eqInt64S_ev (x : List Int) (h : (Lm tr) x) : Evt (fun k => laws_eqInt64S.f k x x) true := by
  have hn := h.1
  refine (Evt.eqr (L := fun k i => laws_eqInt64S.l0 x x k i) (fun _ _ => true) x x (by omega) (fun i h1 h2 o ht hf => ?_) ?_).to (eqRows_refl (fun _ => rfl) x)
  · refine Evt.s ?_
    simp only [laws_eqInt64S.l0_s]
    exact Evt.t (int_lt h1) (Evt.chk (idx_ok h1) (Evt.chk (idx_ok h2) (Evt.f (by simp [sEq_refl]) (ht rfl))))
  · refine Evt.s ?_
    simp only [laws_eqInt64S.l0_s]
    exact Evt.f int_nlt (Evt.self _)
theorem eqRule_ev (x : Rule) (h : smRule x) : Evt (fun k => laws_eqRule.f k x x) true := Evt.bind (eqInt64S_ev _ h.1) (Evt.f rfl (Evt.f (by simp [sEq_refl]) (Evt.f (by simp [sEq_refl]) (Evt.self _))))
theorem eqOut_ev (x : Out) (h : smOut x) : Evt (fun k => laws_eqOut.f k x x) true := Evt.f (by simp [sEq_refl]) (Evt.bind (eqRule_ev _ h.2) (Evt.f rfl (Evt.self _)))
theorem eqCoin_ev (x : Coin) (h : smCoin x) : Evt (fun k => laws_eqCoin.f k x x) true := Evt.bind (eqRef_ev _ h.1) (Evt.f rfl (Evt.bind (eqOut_ev _ h.2.1) (Evt.f rfl (Evt.f (by simp [sEq_refl]) (Evt.f (by simp [sEq_refl]) (Evt.self _))))))
theorem eqCoinS_ev (x : List Coin) (h : (Lm smCoin) x) : Evt (fun k => laws_eqCoinS.f k x x) true := by
  have hn := h.1
  refine (Evt.eqr (L := fun k i => laws_eqCoinS.l0 x x k i) (fun _ _ => true) x x (by omega) (fun i h1 h2 o ht hf => ?_) ?_).to (eqRows_refl (fun _ => rfl) x)
  · refine Evt.s ?_
    simp only [laws_eqCoinS.l0_s]
    exact Evt.t (int_lt h1) (Evt.chk (idx_ok h1) (Evt.chk (idx_ok h2) (Evt.bind (eqCoin_ev _ (h.2 _ (gt_mem h1))) (Evt.f rfl (ht rfl)))))
  · refine Evt.s ?_
    simp only [laws_eqCoinS.l0_s]
    exact Evt.f int_nlt (Evt.self _)
theorem eqCoinsResult_ev (x : CoinsResult) (h : smCoinsResult x) : Evt (fun k => laws_eqCoinsResult.f k x x) true := Evt.f (by simp [sEq_refl]) (Evt.bind (eqCoinS_ev _ h.2) (Evt.f rfl (Evt.self _)))
theorem eqOutS_ev (x : List Out) (h : (Lm smOut) x) : Evt (fun k => laws_eqOutS.f k x x) true := by
  have hn := h.1
  refine (Evt.eqr (L := fun k i => laws_eqOutS.l0 x x k i) (fun _ _ => true) x x (by omega) (fun i h1 h2 o ht hf => ?_) ?_).to (eqRows_refl (fun _ => rfl) x)
  · refine Evt.s ?_
    simp only [laws_eqOutS.l0_s]
    exact Evt.t (int_lt h1) (Evt.chk (idx_ok h1) (Evt.chk (idx_ok h2) (Evt.bind (eqOut_ev _ (h.2 _ (gt_mem h1))) (Evt.f rfl (ht rfl)))))
  · refine Evt.s ?_
    simp only [laws_eqOutS.l0_s]
    exact Evt.f int_nlt (Evt.self _)
theorem markInt64S_mh (x : List Int) (h : (Lm tr) x) (s : Int) (h1 : 1 ≤ s) (h2 : s + 1048576 ≤ 4611686018427387904) : ∃ y t, s ≤ t ∧ t ≤ s + 1048576 ∧ Evt (fun k => laws_markInt64S.f k x s) (t, y) ∧ Evt (fun k => laws_heldInt64S.f k y s) t := by
  have hn := h.1
  have hc : (x.length : Int) * 1 ≤ 1048576 := by omega
  obtain ⟨ys, t, a1, a2, a3, a4, a5⟩ := mark_held (fun k a s i => laws_markInt64S.l0 k a s i) (fun a k s i => laws_heldInt64S.l0 a k s i) True 1 (by omega) tr (fun acc s i hi hp h1 h2 => by
    have w0 : wrap64 (s + 1) = s + 1 := wrap64_in _ (by omega)
    refine ⟨s, (s + 1), by omega, by omega, fun r hr => ?_, fun hB ys hi hy r hr => ?_⟩
    · simp only [laws_markInt64S.l0_s, int_lt hi, cond_true, idx_ok hi, chkT, Int.toNat_natCast, List.length_set, gt_set hi, List.set_set, w0]
      exact hr
    · simp only [laws_heldInt64S.l0_s, int_lt hi, cond_true, idx_ok hi, chkT, hy, bne_self_eq_false, cond_false, w0]
      exact hr) (fun acc s => by
    simp only [laws_markInt64S.l0_s]
    exact Evt.f int_nlt (Evt.self _)) (fun _ ys s => by
    simp only [laws_heldInt64S.l0_s]
    exact Evt.f int_nlt (Evt.self _)) x (by omega) h.2 s h1 (by omega)
  exact ⟨ys, t, a2, by omega, Evt.bind a4 (Evt.self _), Evt.bind (a5 trivial) (Evt.self _)⟩
theorem markCoinS_mh (x : List Coin) (h : (Lm smCoin) x) (s : Int) (h1 : 1 ≤ s) (h2 : s + 1099518967808 ≤ 4611686018427387904) : ∃ y t, s ≤ t ∧ t ≤ s + 1099518967808 ∧ Evt (fun k => laws_markCoinS.f k x s) (t, y) ∧ Evt (fun k => laws_heldCoinS.f k y s) t := by
  have hn := h.1
  have hc : (x.length : Int) * 1048583 ≤ 1099518967808 := by omega
  obtain ⟨ys, t, a1, a2, a3, a4, a5⟩ := mark_held (fun k a s i => laws_markCoinS.l0 k a s i) (fun a k s i => laws_heldCoinS.l0 a k s i) True 1048583 (by omega) smCoin (fun acc s i hi hp h1 h2 => by
    have w0 : wrap64 (s + 1) = s + 1 := wrap64_in _ (by omega)
    have w1 : wrap64 (s + 1 + 1) = s + 1 + 1 := wrap64_in _ (by omega)
    have w2 : wrap64 (s + 1 + 1 + 1) = s + 1 + 1 + 1 := wrap64_in _ (by omega)
    obtain ⟨y3, t3, l3, u3, e3, g3⟩ := markInt64S_mh (gt acc (i : Int)).fOut.fRule.fKeys hp.2.1.2.1 (s + 1 + 1 + 1) (by omega) (by omega)
    have n3 : decide (t3 < 0) = false := by simp; omega
    have w4 : wrap64 (t3 + 1) = t3 + 1 := wrap64_in _ (by omega)
    have w5 : wrap64 (t3 + 1 + 1) = t3 + 1 + 1 := wrap64_in _ (by omega)
    have w6 : wrap64 (t3 + 1 + 1 + 1) = t3 + 1 + 1 + 1 := wrap64_in _ (by omega)
    have w7 : wrap64 (t3 + 1 + 1 + 1 + 1) = t3 + 1 + 1 + 1 + 1 := wrap64_in _ (by omega)
    have h3 : ((3 : Int) != 0) = true := by decide
    refine ⟨⟨⟨s, s + 1⟩, ⟨s + 1 + 1, ⟨y3, t3, t3 + 1⟩⟩, t3 + 1 + 1, (Int.tmod (t3 + 1 + 1 + 1) 3 == 0)⟩, t3 + 1 + 1 + 1 + 1, by omega, by omega, fun r hr => ?_, fun hB ys hi hy r hr => ?_⟩
    · simp only [laws_markCoinS.l0_s, int_lt hi, cond_true, cond_false, idx_ok hi, chkT, Int.toNat_natCast, h3, w0, w1, w2, w4, w5, w6, w7]
      refine Evt.bind e3 ?_
      try simp only [int_lt hi, cond_true, cond_false, idx_ok hi, chkT, Int.toNat_natCast, h3, w0, w1, w2, w4, w5, w6, w7]
      exact hr
    · simp only [laws_heldCoinS.l0_s, hy, bne_self_eq_false, int_lt hi, cond_true, cond_false, idx_ok hi, chkT, Int.toNat_natCast, h3, w0, w1, w2, w4, w5, w6, w7]
      refine Evt.bind g3 ?_
      try simp only [hy, bne_self_eq_false, n3, int_lt hi, cond_true, cond_false, idx_ok hi, chkT, Int.toNat_natCast, h3, w0, w1, w2, w4, w5, w6, w7]
      exact hr) (fun acc s => by
    simp only [laws_markCoinS.l0_s]
    exact Evt.f int_nlt (Evt.self _)) (fun _ ys s => by
    simp only [laws_heldCoinS.l0_s]
    exact Evt.f int_nlt (Evt.self _)) x (by omega) h.2 s h1 (by omega)
  exact ⟨ys, t, a2, by omega, Evt.bind a4 (Evt.self _), Evt.bind (a5 trivial) (Evt.self _)⟩
theorem markOutS_mh (x : List Out) (h : (Lm smOut) x) (s : Int) (h1 : 1 ≤ s) (h2 : s + 1099514773504 ≤ 4611686018427387904) : ∃ y t, s ≤ t ∧ t ≤ s + 1099514773504 ∧ Evt (fun k => laws_markOutS.f k x s) (t, y) := by
  have hn := h.1
  have hc : (x.length : Int) * 1048579 ≤ 1099514773504 := by omega
  obtain ⟨ys, t, a1, a2, a3, a4, a5⟩ := mark_held (fun k a s i => laws_markOutS.l0 k a s i) (fun a k s i => none) False 1048579 (by omega) smOut (fun acc s i hi hp h1 h2 => by
    have w0 : wrap64 (s + 1) = s + 1 := wrap64_in _ (by omega)
    obtain ⟨y1, t1, l1, u1, e1, g1⟩ := markInt64S_mh (gt acc (i : Int)).fRule.fKeys hp.2.1 (s + 1) (by omega) (by omega)
    have n1 : decide (t1 < 0) = false := by simp; omega
    have w2 : wrap64 (t1 + 1) = t1 + 1 := wrap64_in _ (by omega)
    have w3 : wrap64 (t1 + 1 + 1) = t1 + 1 + 1 := wrap64_in _ (by omega)
    have h3 : ((3 : Int) != 0) = true := by decide
    refine ⟨⟨s, ⟨y1, t1, t1 + 1⟩⟩, t1 + 1 + 1, by omega, by omega, fun r hr => ?_, fun hB ys hi hy r hr => ?_⟩
    · simp only [laws_markOutS.l0_s, int_lt hi, cond_true, cond_false, idx_ok hi, chkT, Int.toNat_natCast, h3, w0, w2, w3]
      refine Evt.bind e1 ?_
      try simp only [int_lt hi, cond_true, cond_false, idx_ok hi, chkT, Int.toNat_natCast, h3, w0, w2, w3]
      exact hr
    · exact hB.elim) (fun acc s => by
    simp only [laws_markOutS.l0_s]
    exact Evt.f int_nlt (Evt.self _)) (fun h => h.elim) x (by omega) h.2 s h1 (by omega)
  exact ⟨ys, t, a2, by omega, Evt.bind a4 (Evt.self _)⟩
theorem markCoinsResult_mh (x : CoinsResult) (h : smCoinsResult x) (s : Int) (h1 : 1 ≤ s) (h2 : s + 1099518967809 ≤ 4611686018427387904) : ∃ y0_0 t, s ≤ t ∧ t ≤ s + 1099518967809 ∧ Evt (fun k => laws_markCoinsResult.f k x s) (t, y0_0) ∧ Evt (fun k => laws_heldCoinsResult.f k (⟨x.fCode, y0_0⟩ : CoinsResult) s) t := by
  obtain ⟨y0_0, t0, l0, u0, e0, g0⟩ := markCoinS_mh x.fCoins h.2 s (by omega) (by omega)
  exact ⟨y0_0, t0, by omega, by omega, (Evt.bind e0 (Evt.self _)), (Evt.bind g0 (Evt.f (by simp; omega) (Evt.self _)))⟩
theorem hasTx_same (x0 : List Coin) (x1 : Int) : impl_hasTx_v x0 x1 = spec_l4Of_v x0 x1 := by
  unfold impl_hasTx_v
  rw [slices_ContainsFunc_impl_Coin_any]
  simp only [spec_l4Of_v, impl_hasTx_1_v, found_any, bifb]
theorem outFault_same (o : Out) : impl_outFault_v o = spec_l4Out_v o := by
  simp only [impl_outFault_v, spec_l4Out_v, ruleFault_same, impl_within_v, spec_l1In_v]
theorem put_shape (c1 c2 c3 c4 : Bool) (fs : Option (List Coin × Int)) (A B : List Coin) (h : c3 = false → c4 = false → A = B) :
    (⟨(bif c1 then (([] : List Coin), (3 : Int)) else (bif c2 then (([] : List Coin), 2) else (onO fs (fun r => r) (bif c3 then (([] : List Coin), 7) else (bif c4 then (([] : List Coin), 2) else (A, 0)))))).2, (bif c1 then (([] : List Coin), (3 : Int)) else (bif c2 then (([] : List Coin), 2) else (onO fs (fun r => r) (bif c3 then (([] : List Coin), 7) else (bif c4 then (([] : List Coin), 2) else (A, 0)))))).1⟩ : CoinsResult)
      = (bif c1 then ⟨3, []⟩ else (bif c2 then ⟨2, []⟩ else (onO (fs.map fun r => (⟨r.2, r.1⟩ : CoinsResult)) (fun r => r) (bif c3 then ⟨7, []⟩ else (bif c4 then ⟨2, []⟩ else ⟨0, B⟩))))) := by
  cases c1
  · cases c2
    · cases fs with
      | some r => rfl
      | none =>
        cases c3
        · cases c4
          · rw [h rfl rfl]; rfl
          · rfl
        · rfl
    · rfl
  · rfl
theorem smr_shape (P : CoinsResult → Prop) (h : ∀ a, P ⟨a, []⟩) (c1 c2 c3 c4 : Bool) (fs : Option CoinsResult) (B : List Coin) (hfs : ∀ r, fs = some r → P r) (hB : c4 = false → P ⟨0, B⟩) :
    P (bif c1 then ⟨3, []⟩ else (bif c2 then ⟨2, []⟩ else (onO fs (fun r => r) (bif c3 then ⟨7, []⟩ else (bif c4 then ⟨2, []⟩ else ⟨0, B⟩))))) := by
  cases c1
  · cases c2
    · cases fs with
      | some r => exact hfs r rfl
      | none =>
        cases c3
        · cases c4
          · exact hB rfl
          · exact h _
        · exact h _
    · exact h _
  · exact h _
theorem outs_map (x2 : List Out) : ∀ (l : List Nat), (l.findSome? (fun (i0 : Nat) => (bif ((spec_l4Out_v (gt x2 (i0 : Int))) != 0) then (some ((⟨(spec_l4Out_v (gt x2 (i0 : Int))), ([] : List Coin)⟩ : CoinsResult))) else none))) = (l.findSome? (fun (i0 : Nat) => (bif ((spec_l4Out_v (gt x2 (i0 : Int))) != 0) then (some (([] : List Coin), (spec_l4Out_v (gt x2 (i0 : Int))))) else none))).map (fun r => ⟨r.2, r.1⟩)
  | [] => rfl
  | a :: l => by
    rw [List.findSome?_cons, List.findSome?_cons]
    cases (spec_l4Out_v (gt x2 (a : Int))) != 0
    · simpa using outs_map x2 l
    · rfl
theorem putCoins_same (x0 : List Coin) (x1 : Int) (x2 : List Out) (x3 : Int) (x4 : Bool) (h0 : Lm smCoin x0) : impl_PutCoins_v x0 x1 x2 x3 x4 = spec_PutCoins_v x0 x1 x2 x3 x4 := by
  have e4 : impl_isId_v x1 = spec_l1In_v x1 1 60 := rfl
  have e5 : impl_isHeight_v x3 = spec_l2Height_v x3 := rfl
  unfold impl_PutCoins_v spec_PutCoins_v
  rw [coinsFault_same]
  cases hf : (spec_l4Fault_v x0) != 0
  · have h : spec_l4Fault_v x0 = 0 := by simpa using hf
    simp only [cond_false]
    unfold impl_putCoins_v
    rw [hasTx_same, e4, e5, outs_map]
    simp only [outFault_same]
    exact put_shape _ _ _ _ _ _ _ (fun ho _ => (l4Put_sort x0 x1 x2 x3 x4 (rise_of h0 h) (hasTx_no (by rw [hasTx_same]; exact ho))).2.1)
  · simp only [cond_true]
theorem same_FnExactPutCoins (x0 : List Coin) (h0 : Lm smCoin x0) (o0 : Lok okCoin x0) (x1 : Int) (o1 : iOk .i64 x1) (x2 : List Out) (h2 : Lm smOut x2) (o2 : Lok okOut x2) (x3 : Int) (o3 : iOk .i64 x3) (x4 : Bool) (o4 : bOk x4) : impl_PutCoins_v x0 x1 x2 x3 x4 = spec_PutCoins_v x0 x1 x2 x3 x4 := putCoins_same x0 x1 x2 x3 x4 h0
theorem put_sm (x0 : List Coin) (x1 : Int) (x2 : List Out) (x3 : Int) (x4 : Bool) (h0 : Lm smCoin x0) (h2 : Lm smOut x2) (hl : x0.length + x2.length ≤ 1048576) : Lm smCoin (spec_l4Put_v x0 x1 x2 x3 x4) := by
  have hp : (spec_l4Put_v x0 x1 x2 x3 x4).Perm (x0 ++ news x1 x3 x4 x2) := l4Put_perm x1 x3 x4 x2 _ x0
  refine ⟨?_, fun c hc => ?_⟩
  · rw [hp.length_eq]; unfold news; simp; omega
  · rcases List.mem_append.1 (hp.mem_iff.1 hc) with hc | hc
    · exact h0.2 c hc
    · obtain ⟨i, hi, rfl⟩ := List.mem_map.1 hc
      have hlt : i < x2.length := by rw [List.mem_range'_1] at hi; omega
      exact ⟨⟨trivial, trivial⟩, h2.2 _ (gt_mem hlt), trivial, trivial⟩
theorem put_smr (x0 : List Coin) (x1 : Int) (x2 : List Out) (x3 : Int) (x4 : Bool) (h0 : Lm smCoin x0) (h2 : Lm smOut x2) : smCoinsResult (spec_PutCoins_v x0 x1 x2 x3 x4) := by
  have hl : ∀ (a : Int), smCoinsResult ⟨a, ([] : List Coin)⟩ := fun a => ⟨trivial, by simp, fun x hx => by cases hx⟩
  unfold spec_PutCoins_v
  cases (spec_l4Fault_v x0) != 0
  · simp only [cond_false]
    refine smr_shape smCoinsResult hl _ _ _ _ _ _ (fun r hr => ?_) (fun hw => ?_)
    · rw [outs_map] at hr
      cases hz : (List.range' 0 (x2.length - 0)).findSome? (fun (i0 : Nat) => (bif ((spec_l4Out_v (gt x2 (i0 : Int))) != 0) then (some (([] : List Coin), (spec_l4Out_v (gt x2 (i0 : Int))))) else none)) with
      | none => rw [hz] at hr; cases hr
      | some q =>
        rw [hz] at hr
        obtain ⟨i, _, hi⟩ := List.exists_of_findSome?_eq_some hz
        rw [← Option.some.inj hr]
        cases hq : (spec_l4Out_v (gt x2 (i : Int))) != 0
        · rw [hq] at hi; cases hi
        · rw [hq] at hi
          rw [← Option.some.inj hi]; exact hl _
    · have a1 := h0.1
      have a2 := h2.1
      have ew : wrap64 ((x0.length : Int) + (x2.length : Int)) = (x0.length : Int) + (x2.length : Int) := wrap64_in _ (by omega)
      rw [ew] at hw
      have := of_decide_eq_false hw
      exact ⟨trivial, put_sm x0 x1 x2 x3 x4 h0 h2 (by omega)⟩
  · simp only [cond_true]; exact hl _
theorem smr_FnExactPutCoins (x0 : List Coin) (h0 : Lm smCoin x0) (o0 : Lok okCoin x0) (x1 : Int) (o1 : iOk .i64 x1) (x2 : List Out) (h2 : Lm smOut x2) (o2 : Lok okOut x2) (x3 : Int) (o3 : iOk .i64 x3) (x4 : Bool) (o4 : bOk x4) : smCoinsResult (spec_PutCoins_v x0 x1 x2 x3 x4) := put_smr x0 x1 x2 x3 x4 h0 h2
end Go.Proofs.Ytbbcabpnkdilgaa.Zk
namespace Go.Proofs.Ytbbcabpnkdilgaa.Pure
open Go Go.Proofs.Ytbbcabpnkdilgaa.Zk
theorem FnExactPutCoins (x0 : List Zk.Coin) (x1 : Int) (x2 : List Zk.Out) (x3 : Int) (x4 : Bool) (o_x0 : (Lok okCoin) x0) (o_x1 : (iOk .i64) x1) (o_x2 : (Lok okOut) x2) (o_x3 : (iOk .i64) x3) (o_x4 : bOk x4) : ∃ k, laws_FnExactPutCoins.f k x0 x1 x2 x3 x4 = some true := by
  refine Evt.get ?_
  obtain ⟨t0, e0, l0, s0⟩ := szCoinS_ev x0 o_x0 1048576 (by omega) (by omega)
  by_cases c0 : t0 < 0
  · exact Evt.bind e0 (Evt.t (by simpa using c0) (Evt.self _))
  refine Evt.bind e0 (Evt.f (by simpa using c0) ?_)
  have m0 := s0 (by omega)
  obtain ⟨t1, e1, l1, s1⟩ := szOutS_ev x2 o_x2 t0 (by omega) (by omega)
  by_cases c1 : t1 < 0
  · exact Evt.bind e1 (Evt.t (by simpa using c1) (Evt.self _))
  refine Evt.bind e1 (Evt.f (by simpa using c1) ?_)
  have m1 := s1 (by omega)
  refine Evt.bind (toCoinS_ev x0 (m0)) ?_
  refine Evt.bind (toOutS_ev x2 (m1)) ?_
  refine Evt.bind (spec_PutCoins_ev x0 x1 x2 x3 x4 (m0) (m1)) ?_
  refine Evt.bind (toCoinS_ev x0 (m0)) ?_
  refine Evt.bind (toOutS_ev x2 (m1)) ?_
  refine Evt.bind ((impl_PutCoins_ev x0 x1 x2 x3 x4 (m0) (m1)).to (same_FnExactPutCoins x0 (m0) o_x0 x1 o_x1 x2 (m1) o_x2 x3 o_x3 x4 o_x4)) ?_
  refine Evt.bind (eqCoinsResult_ev _ (smr_FnExactPutCoins x0 (m0) o_x0 x1 o_x1 x2 (m1) o_x2 x3 o_x3 x4 o_x4)) (Evt.f rfl ?_)
  refine Evt.bind (toCoinS_ev x0 (m0)) ?_
  refine Evt.bind (eqCoinS_ev _ (m0)) (Evt.f rfl ?_)
  refine Evt.bind (toOutS_ev x2 (m1)) ?_
  refine Evt.bind (eqOutS_ev _ (m1)) (Evt.f rfl ?_)
  obtain ⟨y2_0, t2, l2, u2, e2, g2⟩ := markCoinS_mh x0 m0 1 (by omega) (by omega)
  refine Evt.bind e2 ?_
  dsimp only
  obtain ⟨y3_0, t3, l3, u3, e3⟩ := markOutS_mh x2 m1 (t2, y2_0).1 (by omega) (by omega)
  refine Evt.bind e3 ?_
  dsimp only
  refine Evt.bind (Evt.t (by simp; omega) (eqCoinsResult_ev _ (smr_FnExactPutCoins x0 (m0) o_x0 x1 o_x1 x2 (m1) o_x2 x3 o_x3 x4 o_x4))) (Evt.f (by simp; omega) ?_)
  obtain ⟨y4_0, t4, l4, u4, e4, g4⟩ := markCoinsResult_mh (spec_PutCoins_v x0 x1 x2 x3 x4) (smr_FnExactPutCoins x0 (m0) o_x0 x1 o_x1 x2 (m1) o_x2 x3 o_x3 x4 o_x4) 1 (by omega) (by omega)
  refine Evt.bind e4 ?_
  dsimp only
  refine Evt.bind g4 ?_
  refine Evt.f (by simp; try omega) ?_
  refine Evt.f (by simp; try omega) ?_
  refine Evt.bind (toCoinS_ev x0 (m0)) ?_
  refine Evt.bind (toOutS_ev x2 (m1)) ?_
  refine Evt.bind ((impl_PutCoins_ev x0 x1 x2 x3 x4 (m0) (m1)).to (same_FnExactPutCoins x0 (m0) o_x0 x1 o_x1 x2 (m1) o_x2 x3 o_x3 x4 o_x4)) ?_
  refine Evt.bind (eqCoinsResult_ev _ (smr_FnExactPutCoins x0 (m0) o_x0 x1 o_x1 x2 (m1) o_x2 x3 o_x3 x4 o_x4)) (Evt.f rfl ?_)
  refine Evt.bind g4 ?_
  refine Evt.f (by simp; try omega) ?_
  refine Evt.f (by simp; try omega) ?_
  exact Evt.self _
end Go.Proofs.Ytbbcabpnkdilgaa.Pure
