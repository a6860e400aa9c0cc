/- The plain law of FnExactBlockText: what the program's function and the reference's compute is the same. No condition. -/
import Derived.Test.YtdhkcglfeiapoaaDoorZkPure
import Derived.Test.YtdhkcglfeiapoaaDoorBlockTextZkOpn
import Derived.Test.YtdhkcglfeiapoaaDoorBlockTextZkF2
namespace Go.Proofs.YtdhkcglfeiapoaaDoor.Zk
open Go Go.RowKit Go.IntWalk
set_option linter.unusedVariables false
set_option linter.unusedSimpArgs false

def szL (n : Nat) (l : Int) : Int := bif decide (wrap64 (l - n) < 0) then -1 else wrap64 (l - n)
theorem szL_ok {n : Nat} {l : Int} (h : decide (szL n l < 0) = false) (h0 : 0 ≤ l) (h1 : l ≤ 1048576) (hn : n ≤ maxLen) : (n : Int) ≤ l ∧ szL n l = l - n := by
  unfold szL at *
  have hn' : n ≤ 9223372036854775807 := by simpa [maxLen] using hn
  have e : wrap64 (l - n) = l - n := by unfold wrap64; omega
  rw [e] at h ⊢
  by_cases hc : l - (n : Int) < 0
  · rw [decide_eq_true hc] at h; cases h
  · rw [decide_eq_false hc]; exact ⟨by omega, rfl⟩
theorem szL_le {n : Nat} {l : Int} (h0 : 0 ≤ l) (h1 : l ≤ 1048576) (hn : n ≤ maxLen) : szL n l ≤ l := by
  unfold szL
  have hn' : n ≤ 9223372036854775807 := by simpa [maxLen] using hn
  have e : wrap64 (l - n) = l - n := by unfold wrap64; omega
  rw [e]
  by_cases hc : l - (n : Int) < 0
  · rw [decide_eq_true hc]; show (-1 : Int) ≤ l; omega
  · rw [decide_eq_false hc]; show l - (n : Int) ≤ l; omega
theorem nn {l : Int} (h : decide (l < 0) = false) : 0 ≤ l := by simpa using h
abbrev tr {α : Type} (x : α) : Prop := True
def Lm {α : Type} (sm : α → Prop) (xs : List α) : Prop := xs.length ≤ 1048576 ∧ ∀ x ∈ xs, sm x
theorem gt_mem {α : Type} [Inhabited α] {xs : List α} {i : Nat} (h : i < xs.length) : gt xs (i : Int) ∈ xs := by
  rw [gt_eq (i := (i : Int)) (by simpa using h)]
  exact List.getElem_mem _
/-- Sizes, added up. -/
theorem Evt.szl {α : Type} [Inhabited α] {L : Nat → Int → Int → Option (Int ⊕ Int)} {sm : α → Prop} (xs : List α) (hn : xs.length ≤ 9223372036854775807)
    (step : ∀ i, i < xs.length → ∀ left, 0 ≤ left → left ≤ 1048576 → ∃ t, t ≤ left ∧ (0 ≤ t → sm (gt xs (i : Int))) ∧ (t < 0 → Evt (fun k => L k left (i : Int)) (.inl (-1))) ∧ ∀ o, 0 ≤ t → Evt (fun k => L k t (wrap64 ((i : Int) + 1))) o → Evt (fun k => L k left (i : Int)) o)
    (done : ∀ left, Evt (fun k => L k left (xs.length : Int)) (.inr left)) (l : Int) (h0 : 0 ≤ l) (h1 : l ≤ 1048576) :
    ∃ o, Evt (fun k => L k l 0) o ∧ match o with | .inl r => r = -1 | .inr t => 0 ≤ t ∧ t ≤ l ∧ ∀ x ∈ xs, sm x := by
  have key : ∀ d i l, i + d = xs.length → 0 ≤ l → l ≤ 1048576 → ∃ o, Evt (fun k => L k l (i : Int)) o ∧ match o with | .inl r => r = -1 | .inr t => 0 ≤ t ∧ t ≤ l ∧ ∀ j, i ≤ j → j < xs.length → sm (gt xs (j : Int)) := by
    intro d
    induction d with
    | zero =>
      intro i l hi h0 h1
      have e : i = xs.length := by omega
      subst e
      exact ⟨_, done l, h0, by omega, fun j h2 h3 => by omega⟩
    | succ d ih =>
      intro i l hi h0 h1
      obtain ⟨t, a1, a2, a3, a4⟩ := step i (by omega) l h0 h1
      by_cases c : t < 0
      · exact ⟨_, a3 c, rfl⟩
      · obtain ⟨o, b1, b2⟩ := ih (i + 1) t (by omega) (by omega) (by omega)
        refine ⟨o, a4 o (by omega) (by rw [w64 (by omega : i < xs.length) hn]; exact b1), ?_⟩
        cases o with
        | inl r => exact b2
        | inr u =>
          refine ⟨b2.1, by have := b2.2.1; omega, fun j h2 h3 => ?_⟩
          by_cases e : j = i
          · subst e; exact a2 (by omega)
          · exact b2.2.2 j (by omega) h3
  obtain ⟨o, b1, b2⟩ := key xs.length 0 l (by omega) h0 h1
  refine ⟨o, b1, ?_⟩
  cases o with
  | inl r => exact b2
  | inr u =>
    refine ⟨b2.1, b2.2.1, fun x hx => ?_⟩
    obtain ⟨j, hj, e⟩ := List.getElem_of_mem hx
    have := b2.2.2 j (by omega) hj
    rw [gt_eq (i := (j : Int)) (by simpa using hj)] at this
    simpa [e] using this

theorem Evt_t2 {β : Type} {f g nxt : Nat → Option (β ⊕ Unit)} {c : Bool} {v : Option β} (hc : c = true) (h : StE f nxt v) : StE (fun n => bif c then f n else g n) nxt v := by subst hc; exact h
theorem Lm_take {α : Type} {sm : α → Prop} {xs : List α} {n : Nat} (h : Lm sm xs) : Lm sm (xs.take n) := ⟨by have := h.1; rw [List.length_take]; omega, fun x hx => h.2 x (List.mem_of_mem_take hx)⟩
theorem Lm_drop {α : Type} {sm : α → Prop} {xs : List α} {n : Nat} (h : Lm sm xs) : Lm sm (xs.drop n) := ⟨by have := h.1; rw [List.length_drop]; omega, fun x hx => h.2 x (List.mem_of_mem_drop hx)⟩
/-! searches, told by 'any' -/
theorem found_any {β γ : Type} (l : List Nat) (p : Nat → Bool) (a : β) (r : β → γ) (c : γ) : onO (l.findSome? fun i => bif p i then some a else none) r c = bif l.any p then r a else c := by
  induction l with
  | nil => rfl
  | cons i l ih =>
    rw [List.findSome?_cons, List.any_cons]
    cases p i
    · simpa using ih
    · rfl
theorem idx_any (l : List Nat) (p : Nat → Bool) : decide (0 ≤ onO (l.findSome? fun i => bif p i then some (i : Int) else none) (fun r => r) (-1)) = l.any p := by
  induction l with
  | nil => rfl
  | cons i l ih =>
    rw [List.findSome?_cons, List.any_cons]
    cases p i
    · simpa using ih
    · simp [onO]
theorem band1 {c d e : Bool} : (c && (bif c then d else e)) = (c && d) := by cases c <;> rfl
theorem bor1 {c d e : Bool} : (c || (bif !c then d else e)) = (c || d) := by cases c <;> rfl
theorem bnn1 {c d e : Bool} : ((!c) || (!(bif (!(!c)) then d else e))) = ((!c) || (!d)) := by cases c <;> rfl
theorem bnn2 {c d : Bool} : ((!c) || (!d)) = !(c && d) := by cases c <;> rfl
theorem bnn3 {c d e : Bool} : ((!c) || (!(bif !(!c) then d else e))) = !(c && d) := by cases c <;> rfl
theorem bn_n {c d e : Bool} : (!c || !(bif c then d else e)) = !(c && d) := by cases c <;> rfl
theorem rng1 {a lo hi : Int} : (decide (a < lo) || decide (hi < a)) = !(decide (lo ≤ a) && decide (a ≤ hi)) := by
  by_cases h1 : a < lo
  · have : ¬ lo ≤ a := by omega
    simp [h1, this]
  · have h2 : lo ≤ a := by omega
    by_cases h3 : hi < a
    · have : ¬ a ≤ hi := by omega
      simp [h1, h2, h3, this]
    · have : a ≤ hi := by omega
      simp [h1, h2, h3, this]
theorem at_any (l : List Nat) (p : Nat → Bool) (h : ∀ i ∈ l, i < 4611686018427387904) : decide (0 < onO (l.findSome? fun i => bif p i then some (wrap64 ((i : Int) + 1)) else none) (fun r => r) 0) = l.any p := by
  induction l with
  | nil => rfl
  | cons i l ih =>
    rw [List.findSome?_cons, List.any_cons]
    have hi := h i (by simp)
    have hl : ∀ j ∈ l, j < 4611686018427387904 := fun j hj => h j (List.mem_cons_of_mem _ hj)
    clear h
    cases p i
    · exact ih hl
    · have e : wrap64 ((i : Int) + 1) = (i : Int) + 1 := by unfold wrap64; omega
      rw [e]
      show decide (0 < (i : Int) + 1) = true
      exact decide_eq_true (by omega)
theorem fs_congr {β : Type} {l : List Nat} {f g : Nat → Option β} (h : ∀ i ∈ l, f i = g i) : l.findSome? f = l.findSome? g := by
  induction l with
  | nil => rfl
  | cons i l ih => rw [List.findSome?_cons, List.findSome?_cons, h i (by simp), ih fun j hj => h j (by simp [hj])]
theorem any_congr' {l : List Nat} {f g : Nat → Bool} (h : ∀ i ∈ l, f i = g i) : l.any f = l.any g := by
  induction l with
  | nil => rfl
  | cons i l ih => rw [List.any_cons, List.any_cons, h i (by simp), ih fun j hj => h j (by simp [hj])]
theorem in_range {i n : Nat} (h : i ∈ List.range' 0 (n - 0)) : i < n := by
  have := List.mem_range'_1.1 h
  omega
theorem gt_take {α : Type} [Inhabited α] {xs : List α} {n j : Nat} (h : j < n) : gt (xs.take n) (j : Int) = gt xs (j : Int) := by
  unfold gt
  have e : ((j : Int)).toNat = j := by simp
  rw [e, List.getD_eq_getElem?_getD, List.getD_eq_getElem?_getD, List.getElem?_take, if_pos h]
theorem any_take {α : Type} [Inhabited α] {xs : List α} {i : Nat} (h : i ≤ xs.length) (p : α → Bool) :
    (List.range' 0 ((xs.take i).length - 0)).any (fun j => p (gt (xs.take i) (j : Int))) = (List.range' 0 (i - 0)).any (fun j => p (gt xs (j : Int))) := by
  have e : (xs.take i).length = i := by rw [List.length_take]; omega
  rw [e]
  exact any_congr' fun j hj => by rw [gt_take (in_range hj)]
theorem sEq_comm (a b : ByteArray) : sEq a b = sEq b a := by unfold sEq; exact BEq.comm
theorem bifb {b : Bool} : (bif b then true else false) = b := by cases b <;> rfl
theorem idx_found {n : Nat} {p : Nat → Bool} (h : 0 ≤ onO ((List.range' 0 (n - 0)).findSome? fun i => bif p i then some (i : Int) else none) (fun r => r) (-1)) : idxOk (onO ((List.range' 0 (n - 0)).findSome? fun i => bif p i then some (i : Int) else none) (fun r => r) (-1)) n = true := by
  have key : ∀ l : List Nat, (∀ i ∈ l, i < n) → 0 ≤ onO (l.findSome? fun i => bif p i then some (i : Int) else none) (fun r => r) (-1) → idxOk (onO (l.findSome? fun i => bif p i then some (i : Int) else none) (fun r => r) (-1)) n = true := by
    intro l
    induction l with
    | nil => intro _ h; exact absurd h (by show ¬ (0 : Int) ≤ -1; omega)
    | cons i l ih =>
      intro hl h
      rw [List.findSome?_cons] at h ⊢
      cases hp : p i
      · rw [hp] at h; exact ih (fun j hj => hl j (List.mem_cons_of_mem _ hj)) h
      · exact idx_ok (hl i (List.mem_cons_self ..))
  exact key _ (fun i hi => in_range hi) h
theorem cut_ok {i n : Nat} (h : i ≤ n) : cutOk (i : Int) n = true := by unfold cutOk; simp; omega
theorem len_eq {a b : Nat} (h : ((a : Int) != (b : Int)) = false) : a = b := by
  by_cases e : a = b
  · exact e
  · have : ((a : Int) != (b : Int)) = true := by simp; omega
    rw [this] at h; cases h

abbrev smBlock (x : Block) : Prop := tr x.fPrev ∧ tr x.fHeight ∧ tr x.fMiner ∧ (Lm tr) x.fTxs
abbrev smTextResult (x : TextResult) : Prop := tr x.fCode ∧ tr x.fText
/-! ### Rows marked, and held so -/
theorem chkT {α : Type} (t : Option α) : Zk.chk true t = t := rfl
theorem gt_set {α : Type} [Inhabited α] {xs : List α} {i : Nat} (h : i < xs.length) (a : α) : gt (xs.set i a) (i : Int) = a := by
  rw [gt_eq (by simpa using h)]; simp
theorem mark_held {α : Type} [Inhabited α] (L : Nat → List α → Int → Int → Option (List α × Int)) (H : List α → Nat → Int → Int → Option (Int ⊕ Int)) (B : Prop) (c : Int) (hc : 0 ≤ c) (p : α → Prop)
    (step : ∀ (acc : List α) (s : Int) (i : Nat), i < acc.length → p (gt acc (i : Int)) → 1 ≤ s → s + c ≤ 4611686018427387904 → ∃ y t, s ≤ t ∧ t ≤ s + c ∧ (∀ r, Evt (fun k => L k (acc.set i y) t (wrap64 ((i : Int) + 1))) r → Evt (fun k => L (k + 1) acc s (i : Int)) r) ∧
      (B → ∀ ys : List α, i < ys.length → gt ys (i : Int) = y → ∀ r, Evt (fun k => H ys k t (wrap64 ((i : Int) + 1))) r → Evt (fun k => H ys (k + 1) s (i : Int)) r))
    (doneL : ∀ (acc : List α) (s : Int), Evt (fun k => L (k + 1) acc s (acc.length : Int)) (acc, s)) (doneH : B → ∀ (ys : List α) (s : Int), Evt (fun k => H ys (k + 1) s (ys.length : Int)) (.inr s))
    (xs : List α) (hn : xs.length ≤ 9223372036854775807) (hp : ∀ x ∈ xs, p x) (s : Int) (h1 : 1 ≤ s) (h2 : s + xs.length * c ≤ 4611686018427387904) :
    ∃ ys t, ys.length = xs.length ∧ s ≤ t ∧ t ≤ s + xs.length * c ∧ Evt (fun k => L k xs s 0) (ys, t) ∧ (B → Evt (fun k => H ys k s 0) (.inr t)) := by
  have key : ∀ (d i : Nat) (acc : List α) (s : Int), i + d = xs.length → acc.length = xs.length → (∀ j, i ≤ j → acc[j]? = xs[j]?) → 1 ≤ s → s + d * c ≤ 4611686018427387904 →
      ∃ ys t, ys.length = xs.length ∧ (∀ j, j < i → ys[j]? = acc[j]?) ∧ s ≤ t ∧ t ≤ s + d * c ∧ Evt (fun k => L k acc s (i : Int)) (ys, t) ∧ (B → Evt (fun k => H ys k s (i : Int)) (.inr t)) := by
    intro d
    induction d with
    | zero =>
      intro i acc s hi hl _ h1 h2
      have e : (i : Int) = (acc.length : Int) := by omega
      exact ⟨acc, s, hl, fun _ _ => rfl, by omega, by omega, by rw [e]; exact Evt.s (doneL acc s), fun hB => by rw [e]; exact Evt.s (doneH hB acc s)⟩
    | succ d ih =>
      intro i acc s hi hl hj h1 h2
      have e : ((d + 1 : Nat) : Int) * c = d * c + c := by rw [Int.natCast_add, Int.add_mul]; simp
      have hdc : 0 ≤ (d : Int) * c := Int.mul_nonneg (by omega) hc
      rw [e] at h2
      have hlt : i < acc.length := by omega
      have hpx : p (gt acc (i : Int)) := by
        rw [gt_eq (by simpa using hlt)]
        have h5 := hj i (Nat.le_refl _)
        rw [List.getElem?_eq_getElem hlt] at h5
        exact hp _ (List.mem_of_getElem? h5.symm)
      obtain ⟨y, t1, a1, a2, a3, a4⟩ := step acc s i hlt hpx h1 (by omega)
      obtain ⟨ys, t, b1, b2, b3, b4, b5, b6⟩ := ih (i + 1) (acc.set i y) t1 (by omega) (by simp [hl]) (fun j hj' => by rw [List.getElem?_set_ne (by omega)]; exact hj j (by omega)) (by omega) (by omega)
      have hy : gt ys (i : Int) = y := by
        have h6 := b2 i (by omega)
        rw [List.getElem?_set_self hlt] at h6
        rw [gt_eq (by simp; omega)]
        have h7 : i < ys.length := by omega
        rw [List.getElem?_eq_getElem h7] at h6
        simpa using h6
      refine ⟨ys, t, b1, fun j hj' => ?_, by omega, by rw [e]; omega, Evt.s (a3 _ ?_), fun hB => Evt.s (a4 hB ys (by omega) hy _ ?_)⟩
      · rw [b2 j (by omega), List.getElem?_set_ne (by omega)]
      · rw [w64 (by omega : i < xs.length) hn]; exact b5
      · rw [w64 (by omega : i < xs.length) hn]; exact b6 hB
  obtain ⟨ys, t, a1, _, a3, a4, a5, a6⟩ := key xs.length 0 xs s (by omega) rfl (fun _ _ => rfl) h1 h2
  exact ⟨ys, t, a1, a3, a4, a5, a6⟩
/-! ### What is gathered in a row -/
theorem len_bif {α : Type} {c : Bool} {a b : List α} {n : Nat} (h : a.length ≤ n) (k : b.length ≤ n) : (bif c then a else b).length ≤ n := by cases c; exact k; exact h
theorem Evt.gatherL {σ : Type} {L : Nat → List σ → Int → Option (List σ)} (n : Nat) (hn : n ≤ 1048576) (st : List σ → Nat → List σ)
    (len : ∀ i, i < n → ∀ a, a.length ≤ i → (st a i).length ≤ i + 1)
    (step : ∀ i, i < n → ∀ a, a.length ≤ i → ∀ o, Evt (fun k => L k (st a i) (wrap64 ((i : Int) + 1))) o → Evt (fun k => L (k + 1) a (i : Int)) o)
    (done : ∀ (i : Nat) a, n ≤ i → Evt (fun k => L (k + 1) a (i : Int)) a) : Evt (fun k => L k [] 0) ((List.range' 0 (n - 0)).foldl st []) := by
  have key : ∀ d i (a : List σ), (i + d = n ∨ n ≤ i ∧ d = 0) → a.length ≤ i → Evt (fun k => L k a (i : Int)) ((List.range' i d).foldl st a) := by
    intro d
    induction d with
    | zero => intro i a hi _; exact Evt.s (done i a (by omega))
    | succ d ih =>
      intro i a hi ha
      rw [List.range'_succ, List.foldl_cons]
      refine Evt.s (step i (by omega) a ha _ ?_)
      rw [w64 (by omega : i < n) (by omega)]
      exact ih (i + 1) (st a i) (by omega) (len i (by omega) a ha)
  exact key (n - 0) 0 [] (by omega) (by simp)
theorem fold_len {σ : Type} (st : List σ → Nat → List σ) (h : ∀ a i, (st a i).length ≤ a.length + 1) : ∀ (l : List Nat) (a : List σ), (l.foldl st a).length ≤ a.length + l.length
  | [], a => by simp
  | i :: l, a => by
    have h1 := fold_len st h l (st a i)
    have h2 := h a i
    simp only [List.foldl_cons, List.length_cons]; omega
theorem fold_len0 {σ : Type} (st : List σ → Nat → List σ) (h : ∀ a i, (st a i).length ≤ a.length + 1) (n : Nat) : ((List.range' 0 (n - 0)).foldl st []).length ≤ n := by
  have := fold_len st h (List.range' 0 (n - 0)) []
  simpa using this
theorem cut_next {t : Int} {n : Nat} (h : idxOk t n = true) (hn : n ≤ 1048576) : cutOk (wrap64 (t + 1)) n = true := by
  have h1 := idx_lo h
  have h2 := idx_hi h
  rw [wrap64_in _ (by omega)]
  unfold cutOk; simp; omega
theorem cut_self {t : Int} {n : Nat} (h : idxOk t n = true) (hn : n ≤ 1048576) : cutOk t (wrap64 (t + 1)).toNat = true := by
  have h1 := idx_lo h
  have h2 := idx_hi h
  rw [wrap64_in _ (by omega)]
  unfold cutOk; simp; omega
theorem Lm_gath {α : Type} [Inhabited α] {sm : α → Prop} (x0 : List α) (h : Lm sm x0) (c : Nat → Bool) : Lm sm ((List.range' 0 (x0.length - 0)).foldl (fun ac (i : Nat) => bif c i then ac ++ ([gt x0 (i : Int)] : List α) else ac) ([] : List α)) := by
  have key : ∀ d i (a : List α), i + d = x0.length → (∀ x ∈ a, sm x) → a.length ≤ i → (∀ x ∈ (List.range' i d).foldl (fun ac (i : Nat) => bif c i then ac ++ ([gt x0 (i : Int)] : List α) else ac) a, sm x) ∧ ((List.range' i d).foldl (fun ac (i : Nat) => bif c i then ac ++ ([gt x0 (i : Int)] : List α) else ac) a).length ≤ x0.length := by
    intro d
    induction d with
    | zero => intro i a hi ha hl; exact ⟨ha, by show a.length ≤ _; omega⟩
    | succ d ih =>
      intro i a hi ha hl
      rw [List.range'_succ, List.foldl_cons]
      refine ih (i + 1) _ (by omega) ?_ ?_
      · cases c i
        · exact ha
        · intro x hx
          rw [cond_true, List.mem_append] at hx
          rcases hx with hx | hx
          · exact ha x hx
          · rw [List.mem_singleton] at hx; subst hx; exact h.2 _ (gt_mem (by omega))
      · cases c i
        · show a.length ≤ i + 1; omega
        · simp; omega
  obtain ⟨h1, h2⟩ := key x0.length 0 [] (by omega) (fun x hx => by cases hx) (by simp)
  exact ⟨Nat.le_trans h2 h.1, h1⟩
/-! ### A loop over a row, with a state that turns, or an early end -/
def stepAll {σ τ : Type} (g : σ → τ → Option σ) : σ → List τ → Option σ
  | s, [] => some s
  | s, r :: rs => match g s r with
    | none => none
    | some t => stepAll g t rs
theorem Evt.steps {σ τ β : Type} [Inhabited τ] {L : Nat → σ → Int → Option (β ⊕ σ)} (rs : List τ) (hn : rs.length ≤ 9223372036854775807) (I : σ → Prop) (g : σ → τ → Option σ) (bad : β)
    (step : ∀ i, i < rs.length → ∀ s, I s → ∀ o, (∀ t, g s (gt rs (i : Int)) = some t → Evt (fun k => L k t (wrap64 ((i : Int) + 1))) o) → (g s (gt rs (i : Int)) = none → o = .inl bad) → Evt (fun k => L (k + 1) s (i : Int)) o)
    (pres : ∀ s r t, I s → g s r = some t → I t) (done : ∀ s, Evt (fun k => L (k + 1) s (rs.length : Int)) (.inr s)) (s : σ) (hs : I s) :
    Evt (fun k => L k s 0) (match stepAll g s rs with | some t => .inr t | none => .inl bad) := by
  have key : ∀ d i s, i + d = rs.length → I s → Evt (fun k => L k s (i : Int)) (match stepAll g s (rs.drop i) with | some t => .inr t | none => .inl bad) := by
    intro d
    induction d with
    | zero =>
      intro i s hi hs
      rw [List.drop_of_length_le (by omega)]
      have e : i = rs.length := by omega
      subst e
      exact Evt.s (done s)
    | succ d ih =>
      intro i s hi hs
      have hlt : i < rs.length := by omega
      rw [List.drop_eq_getElem_cons hlt]
      have hg : gt rs (i : Int) = rs[i] := gt_eq (by simpa using hlt)
      refine Evt.s (step i hlt s hs _ (fun t ht => ?_) (fun ht => ?_))
      · rw [hg] at ht
        rw [w64 hlt hn]
        have := ih (i + 1) t (by omega) (pres _ _ _ hs ht)
        simp only [stepAll, ht]
        exact this
      · rw [hg] at ht
        simp only [stepAll, ht]
  exact key rs.length 0 s (by omega) hs
theorem stepAll_pres {σ τ : Type} {g : σ → τ → Option σ} {I : σ → Prop} (pres : ∀ s r t, I s → g s r = some t → I t) : ∀ (rs : List τ) (s t : σ), I s → stepAll g s rs = some t → I t
  | [], s, t, hs, h => by cases h; exact hs
  | r :: rs, s, t, hs, h => by
    simp only [stepAll] at h
    cases hg : g s r with
    | none => rw [hg] at h; cases h
    | some u => rw [hg] at h; exact stepAll_pres pres rs u t (pres _ _ _ hs hg) h
theorem stepAll_same {σ τ : Type} {g g' : σ → τ → Option σ} {I : σ → Prop} (pres : ∀ s r t, I s → g s r = some t → I t) (same : ∀ s r, I s → g s r = g' s r) : ∀ (rs : List τ) (s : σ), I s → stepAll g s rs = stepAll g' s rs
  | [], s, _ => rfl
  | r :: rs, s, hs => by
    simp only [stepAll]
    rw [← same s r hs]
    cases hg : g s r with
    | none => rfl
    | some u => exact stepAll_same pres same rs u (pres _ _ _ hs hg)
theorem Lm_sub {α : Type} {sm : α → Prop} {xs ys : List α} (h : Lm sm xs) (s : ys.Sublist xs) : Lm sm ys := ⟨Nat.le_trans s.length_le h.1, fun x hx => h.2 x (s.subset hx)⟩
theorem cut_sub {α : Type} (xs : List α) {a b : Nat} (h : a ≤ b) : (xs.take a ++ xs.drop b).Sublist xs := by
  have h1 : (xs.take a ++ xs.drop b).Sublist (xs.take a ++ xs.drop a) := List.Sublist.append (.refl _) (by
    have e : xs.drop b = (xs.drop a).drop (b - a) := by rw [List.drop_drop]; congr 1; omega
    rw [e]; exact List.drop_sublist _ _)
  rw [List.take_append_drop] at h1
  exact h1
theorem fs_all {β : Type} {p : Nat → Option β} {n : Nat} (h : (List.range' 0 (n - 0)).findSome? p = none) : ∀ i, i < n → p i = none := by
  intro i hi
  rw [List.findSome?_eq_none_iff] at h
  exact h i (by rw [List.mem_range']; exact ⟨i, by omega, by omega⟩)
theorem onO_zero {l : List Nat} {p : Nat → Option Int} {c : Int} (h : onO (l.findSome? p) (fun r => r) c = 0) (hp : ∀ i, p i ≠ some 0) : l.findSome? p = none ∧ c = 0 := by
  cases hf : l.findSome? p with
  | none => rw [hf] at h; exact ⟨rfl, h⟩
  | some r =>
    rw [hf] at h
    obtain ⟨i, _, hi⟩ := List.exists_of_findSome?_eq_some hf
    have : r = 0 := h
    subst this
    exact absurd hi (hp i)
/-! ### A loop over a row, as a fold over it -/
theorem range_foldl {α β : Type} [Inhabited α] (xs : List α) (f : β → α → β) (a : β) : (List.range' 0 (xs.length - 0)).foldl (fun ac (i : Nat) => f ac (gt xs (i : Int))) a = xs.foldl f a := by
  have key : ∀ d i a, i + d = xs.length → (List.range' i d).foldl (fun ac (i : Nat) => f ac (gt xs (i : Int))) a = (xs.drop i).foldl f a := by
    intro d
    induction d with
    | zero => intro i a h; rw [List.drop_eq_nil_of_le (by omega)]; rfl
    | succ d ih =>
      intro i a h
      have hi : i < xs.length := by omega
      rw [List.range'_succ, List.foldl_cons, ih (i + 1) _ (by omega), List.drop_eq_getElem_cons hi, List.foldl_cons, gt_eq (by simpa using hi)]
      simp
  simpa using key xs.length 0 a (by omega)
theorem fold_if {α β : Type} (c : α → Bool) (g : β → α → β) : ∀ (xs : List α) (ys : List α) (b : β), (xs.foldl (fun ac x => bif c x then ac ++ [x] else ac) ys).foldl g b = xs.foldl (fun n x => bif c x then g n x else n) (ys.foldl g b)
  | [], ys, b => rfl
  | x :: xs, ys, b => by
    rw [List.foldl_cons, List.foldl_cons, fold_if c g xs]
    cases c x
    · rfl
    · rw [cond_true, cond_true, List.foldl_append]; rfl
theorem fold_map {α β : Type} (g : α → β) : ∀ (xs : List α) (ys : List β), xs.foldl (fun ac x => ac ++ [g x]) ys = ys ++ xs.map g
  | [], ys => by simp
  | x :: xs, ys => by rw [List.foldl_cons, fold_map g xs]; simp
/-! ### Digits -/
def mkB (l : List UInt8) : ByteArray := ⟨l.toArray⟩
theorem mkB_append (a b : List UInt8) : mkB a ++ mkB b = mkB (a ++ b) := by
  apply ByteArray.ext
  simp [mkB]
theorem mkB_size (l : List UInt8) : (mkB l).size = l.length := by simp [mkB, ByteArray.size]
def dgL (n : Int) : List UInt8 := Lib.decDigits n.toNat
theorem dgL_len (n : Int) : ∀ u : Nat, n.toNat = u → (dgL n).length ≤ u + 1 := by
  have key : ∀ u : Nat, (Lib.decDigits u).length ≤ u + 1 := by
    intro u
    induction u using Nat.strongRecOn with
    | _ u ih =>
      rw [Lib.decDigits]
      by_cases h : u < 10
      · rw [dif_pos h]; simp
      · rw [dif_neg h, List.length_append]
        have := ih (u / 10) (by omega)
        simp; omega
  intro u hu
  subst hu
  exact key _
theorem str1 (n : Int) (h0 : 0 ≤ n) (h1 : n ≤ 200) : strOfNums ([n] : List Int) = mkB [UInt8.ofNat n.toNat] := rfl
theorem itoa_dg (n : Int) (h0 : 0 ≤ n) : (⟨(Lib.itoa n).toArray⟩ : ByteArray) = mkB (dgL n) := by
  unfold Lib.itoa
  rw [if_neg (by omega)]; rfl
theorem leB_mk {a b : Nat} (h : a + b ≤ 1000000) : leB (a + b) 9223372036854775807 = true := decide_eq_true (by omega)
theorem dg3 (n : Int) (h0 : 0 ≤ n) (h1 : n ≤ 999) : (dgL n).length ≤ 1000 := by
  have := dgL_len n n.toNat rfl
  omega
theorem join3 (xs : List Int) (h1 : 1 ≤ xs.length) (h3 : xs.length ≤ 3) (hk : ∀ x ∈ xs, 1 ≤ x ∧ x ≤ 999) : (Lib.join (xs.map dgL) [44]).length ≤ 3100 := by
  have hd : ∀ x ∈ xs, (dgL x).length ≤ 1000 := fun x hx => dg3 x (by have := hk x hx; omega) (hk x hx).2
  match xs, h1, h3, hd with
  | [a], _, _, hd => have := hd a (by simp); simp [Lib.join_cons, Lib.joinTail]; omega
  | [a, b], _, _, hd => have := hd a (by simp); have := hd b (by simp); simp [Lib.join_cons, Lib.joinTail]; omega
  | [a, b, c], _, _, hd => have := hd a (by simp); have := hd b (by simp); have := hd c (by simp); simp [Lib.join_cons, Lib.joinTail]; omega
  | [], h, _, _ => simp at h
  | _ :: _ :: _ :: _ :: _, _, h, _ => simp at h
theorem lens_le (m : Nat) : ∀ xs : List (List UInt8), (∀ x ∈ xs, x.length ≤ m) → Lib.lens xs ≤ m * xs.length
  | [], _ => by simp [Lib.lens]
  | x :: r, h => by
    have h1 := h x (by simp)
    have h2 := lens_le m r (fun y hy => h y (by simp [hy]))
    have e : m * (r.length + 1) = m * r.length + m := Nat.mul_succ ..
    have e2 : Lib.lens (x :: r) = x.length + Lib.lens r := by simp [Lib.lens]
    rw [e2, List.length_cons, e]; omega
theorem join_le {m n : Nat} {xs : List (List UInt8)} {sep : List UInt8} (h : ∀ x ∈ xs, x.length ≤ m) (hn : xs.length ≤ n) : (Lib.join xs sep).length ≤ m * n + sep.length * n := by
  cases xs with
  | nil => simp [Lib.join_nil]
  | cons x r =>
    have h1 := lens_le m (x :: r) h
    rw [List.length_cons] at h1 hn
    have a : m * (r.length + 1) ≤ m * n := Nat.mul_le_mul_left _ hn
    have b : sep.length * r.length ≤ sep.length * n := Nat.mul_le_mul_left _ (by omega)
    rw [Lib.join_length]; omega
theorem mkL (l : List UInt8) : (⟨l.toArray⟩ : ByteArray) = mkB l := rfl
theorem szInt64S_ev (x : List Int) (o : (Lok (iOk .i64)) x) (l : Int) (h0 : 0 ≤ l) (h1 : l ≤ 1048576) : ∃ t, Evt (fun k => laws_szInt64S.f k x l) t ∧ t ≤ l ∧ (0 ≤ t → (Lm tr) x) := by
  have hn := o.1
  exact ⟨szL x.length l, Evt.if_ (Evt.self _) (Evt.self _), szL_le h0 h1 hn, fun h => ⟨by have := szL_ok (n := x.length) (l := l) (by simpa using h) h0 h1 hn; omega, by simp⟩⟩
theorem szBlock_ev (x : Block) (o : okBlock x) (l : Int) (h0 : 0 ≤ l) (h1 : l ≤ 1048576) : ∃ t, Evt (fun k => laws_szBlock.f k x l) t ∧ t ≤ l ∧ (0 ≤ t → smBlock x) := by
  obtain ⟨t0, e0, l0, s0⟩ := szInt64S_ev x.fTxs o.2.2.2 l (by omega) (by omega)
  by_cases c0 : t0 < 0
  · exact ⟨-1, Evt.bind e0 (Evt.t (by simpa using c0) (Evt.self _)), by omega, fun h => by omega⟩
  exact ⟨t0, Evt.bind e0 (Evt.f (by simpa using c0) (Evt.self _)), by omega, fun _ => ⟨(by repeat' (first | trivial | constructor)), (by repeat' (first | trivial | constructor)), (by repeat' (first | trivial | constructor)), s0 (by omega)⟩⟩
theorem toInt64S_ev (x : List Int) (h : (Lm tr) x) : Evt (fun k => laws_toInt64S.f k x) x := by
  have hn := h.1
  refine Evt.chk (by simp) (Evt.chk (by simp [leB]; omega) (Evt.bind (a := x) ?_ (Evt.self _)))
  have := Evt.copy (L := fun k acc i => laws_toInt64S.l0 x k acc i) x id (by omega) (fun acc i hl hi r hr => ?_) (fun acc => ?_) (List.replicate ((x.length : Int)).toNat 0) (by simp)
  · simpa using this
  · refine Evt.s ?_
    simp only [laws_toInt64S.l0_s]
    refine Evt.t (int_lt hi) (Evt.chk (idx_ok hi) (Evt.chk (idx_ok (hl ▸ hi)) ?_))
    simpa using hr
  · refine Evt.s ?_
    simp only [laws_toInt64S.l0_s]
    exact Evt.f int_nlt (Evt.self _)
theorem toBlock_ev (x : Block) (h : smBlock x) : Evt (fun k => laws_toBlock.f k x) x := Evt.bind (toInt64S_ev _ h.2.2.2) (Evt.self _)
def spec_l1In_v (x0 : Int) (x1 : Int) (x2 : Int) : Bool := ((decide (x1 ≤ x0)) && (decide (x0 ≤ x2)))
theorem spec_l1In_ev (x0 : Int) (x1 : Int) (x2 : Int)  : Evt (fun k => spec_l1In.f k x0 x1 x2) (spec_l1In_v x0 x1 x2) :=
  (Evt.self _)
def spec_l1Key_v (x0 : Int) : Bool := (spec_l1In_v x0 1 999)
theorem spec_l1Key_ev (x0 : Int)  : Evt (fun k => spec_l1Key.f k x0) (spec_l1Key_v x0) :=
  (Evt.bind (spec_l1In_ev x0 1 999) (Evt.self _))
def spec_l4Among_v (x0 : List Int) (x1 : Int) : Bool := (onO ((List.range' 0 (x0.length - 0)).findSome? (fun (i0 : Nat) => (bif ((gt x0 (i0 : Int)) == x1) then (some true) else none))) (fun r => r) false)
theorem spec_l4Among_ev (x0 : List Int) (x1 : Int) (h_x0 : (Lm tr) x0) : Evt (fun k => spec_l4Among.f k x0 x1) (spec_l4Among_v x0 x1) :=
  (Evt.loop (r' := fun r => r) (Evt.srch (L := (fun k i => spec_l4Among.l0 x0 x1 k i)) 0 x0.length (by have := h_x0; first | (have := this.1; omega) | omega) (fun (i0 : Nat) => (bif ((gt x0 (i0 : Int)) == x1) then (some true) else none)) (fun i0 hs2 hi2 => by
  have hbn : x0.length ≤ 9223372036854775807 := (by have := h_x0; first | (have := this.1; omega) | omega)
  simp only [spec_l4Among.l0_s]
  exact Evt_t2 (int_lt hi2) (StE.chk (by first | exact idx_ok (by omega) | exact idx_ok (by have hq := len_eq (by assumption); omega) | exact idx_found (show (0 : Int) ≤ (i0 : Int) by simp_all) | exact cut_ok (by omega) | exact or_ok (idx_ok (by omega)) | (refine or1 (fun hz => pre_ok (by simp at hz; omega) (by omega) (by omega))) | exact pre_ok (by omega) (by omega) (by omega) | (simp_all [idxOk, cutOk, leB]; done) | (simp_all [idxOk, cutOk, leB]; omega) | (simp [idxOk, cutOk, leB] at *; omega) | (have hf0 := h_x0.1; simp only [leB, decide_eq_true_eq, List.length_append, List.length_cons, List.length_nil]; omega)) (StE.ifh (fun hc1 => (StE.ret _)) (fun hc1 => StE.next)))) (fun j hj => by
  simp only [spec_l4Among.l0_s]
  exact Evt.f (ge_lt hj) (Evt.self _))) (fun _ => rfl) (Evt.self _))
def spec_l7Fault_v (x0 : Block) : Int := (bif (((!(spec_l1In_v x0.fPrev 0 60)) || (!(bif (!(!(spec_l1In_v x0.fPrev 0 60))) then (spec_l1In_v x0.fHeight 1 40) else default))) || (!(bif (!((!(spec_l1In_v x0.fPrev 0 60)) || (!(bif (!(!(spec_l1In_v x0.fPrev 0 60))) then (spec_l1In_v x0.fHeight 1 40) else default)))) then (spec_l1Key_v x0.fMiner) else default))) then 3 else (bif ((x0.fPrev == 0) != (x0.fHeight == 1)) then 1 else (bif (decide (6 < (x0.fTxs.length : Int))) then 2 else (onO ((List.range' 0 (x0.fTxs.length - 0)).findSome? (fun (i0 : Nat) => (bif !(spec_l1In_v (gt x0.fTxs (i0 : Int)) 1 60) then (some 3) else (bif (spec_l4Among_v (x0.fTxs.take ((i0 : Int)).toNat) (gt x0.fTxs (i0 : Int))) then (some 7) else none)))) (fun r => r) 0))))
theorem spec_l7Fault_ev (x0 : Block) (h_x0 : smBlock x0) : Evt (fun k => spec_l7Fault.f k x0) (spec_l7Fault_v x0) :=
  (Evt.bind (spec_l1In_ev x0.fPrev 0 60) (Evt.bind (Evt.ifh (fun _ => (spec_l1In_ev x0.fHeight 1 40)) (fun _ => Evt.self _)) (Evt.bind (Evt.ifh (fun _ => (spec_l1Key_ev x0.fMiner)) (fun _ => Evt.self _)) (Evt.ifh (fun hc5 => (Evt.self _)) (fun hc5 => (Evt.ifh (fun hc4 => (Evt.self _)) (fun hc4 => (Evt.ifh (fun hc3 => (Evt.self _)) (fun hc3 => (Evt.loop (r' := fun r => r) (Evt.srch (L := (fun k i => spec_l7Fault.l0 x0 k i)) 0 x0.fTxs.length (by have := h_x0.2.2.2; first | (have := this.1; omega) | omega) (fun (i0 : Nat) => (bif !(spec_l1In_v (gt x0.fTxs (i0 : Int)) 1 60) then (some 3) else (bif (spec_l4Among_v (x0.fTxs.take ((i0 : Int)).toNat) (gt x0.fTxs (i0 : Int))) then (some 7) else none))) (fun i0 hs3 hi3 => by
  have hbn : x0.fTxs.length ≤ 9223372036854775807 := (by have := h_x0.2.2.2; first | (have := this.1; omega) | omega)
  simp only [spec_l7Fault.l0_s]
  exact Evt_t2 (int_lt hi3) (StE.chk (by first | exact idx_ok (by omega) | exact idx_ok (by have hq := len_eq (by assumption); omega) | exact idx_found (show (0 : Int) ≤ (i0 : Int) by simp_all) | exact cut_ok (by omega) | exact or_ok (idx_ok (by omega)) | (refine or1 (fun hz => pre_ok (by simp at hz; omega) (by omega) (by omega))) | exact pre_ok (by omega) (by omega) (by omega) | (simp_all [idxOk, cutOk, leB]; done) | (simp_all [idxOk, cutOk, leB]; omega) | (simp [idxOk, cutOk, leB] at *; omega) | (have hf0 := h_x0.2.2.2.1; simp only [leB, decide_eq_true_eq, List.length_append, List.length_cons, List.length_nil]; omega)) (StE.bind (spec_l1In_ev (gt x0.fTxs (i0 : Int)) 1 60) (StE.ifh (fun hc2 => (StE.ret _)) (fun hc2 => (StE.chk (by first | exact idx_ok (by omega) | exact idx_ok (by have hq := len_eq (by assumption); omega) | exact idx_found (by simp_all) | exact cut_ok (by omega) | exact or_ok (idx_ok (by omega)) | (refine or1 (fun hz => pre_ok (by simp at hz; omega) (by omega) (by omega))) | exact pre_ok (by omega) (by omega) (by omega) | (simp_all [idxOk, cutOk, leB]; done) | (simp_all [idxOk, cutOk, leB]; omega) | (simp [idxOk, cutOk, leB] at *; omega) | (have hf0 := h_x0.2.2.2.1; simp only [leB, decide_eq_true_eq, List.length_append, List.length_cons, List.length_nil]; omega)) (StE.chk (by first | exact idx_ok (by omega) | exact idx_ok (by have hq := len_eq (by assumption); omega) | exact idx_found (show (0 : Int) ≤ (i0 : Int) by simp_all) | exact cut_ok (by omega) | exact or_ok (idx_ok (by omega)) | (refine or1 (fun hz => pre_ok (by simp at hz; omega) (by omega) (by omega))) | exact pre_ok (by omega) (by omega) (by omega) | (simp_all [idxOk, cutOk, leB]; done) | (simp_all [idxOk, cutOk, leB]; omega) | (simp [idxOk, cutOk, leB] at *; omega) | (have hf0 := h_x0.2.2.2.1; simp only [leB, decide_eq_true_eq, List.length_append, List.length_cons, List.length_nil]; omega)) (StE.bind (spec_l4Among_ev (x0.fTxs.take ((i0 : Int)).toNat) (gt x0.fTxs (i0 : Int)) ((Lm_take h_x0.2.2.2))) (StE.ifh (fun hc1 => (StE.ret _)) (fun hc1 => StE.next)))))))))) (fun j hj => by
  simp only [spec_l7Fault.l0_s]
  exact Evt.f (ge_lt hj) (Evt.self _))) (fun _ => rfl) (Evt.self _)))))))))))
/-! ### A block's text, as bytes -/
def blockL (b : Block) : List UInt8 := [98, 108, 111, 99, 107, 32] ++ dgL b.fPrev ++ [32] ++ dgL b.fHeight ++ [32] ++ dgL b.fMiner ++ [32] ++ (bif (b.fTxs.length : Int) == 0 then [45] else Lib.join (b.fTxs.map dgL) [43])
structure BlockOK (b : Block) : Prop where
  prev : 0 ≤ b.fPrev ∧ b.fPrev ≤ 60
  height : 1 ≤ b.fHeight ∧ b.fHeight ≤ 40
  miner : 1 ≤ b.fMiner ∧ b.fMiner ≤ 999
  n6 : b.fTxs.length ≤ 6
  txs : ∀ x ∈ b.fTxs, 1 ≤ x ∧ x ≤ 60
theorem block_ok (x0 : Block) (h : (spec_l7Fault_v x0 != 0) = false) : BlockOK x0 := by
  have h0 : spec_l7Fault_v x0 = 0 := by simpa using h
  unfold spec_l7Fault_v at h0
  cases ha : spec_l1In_v x0.fPrev 0 60
  · rw [ha] at h0; exact absurd (show (3 : Int) = 0 from h0) (by decide)
  cases hb : spec_l1In_v x0.fHeight 1 40
  · rw [ha, hb] at h0; exact absurd (show (3 : Int) = 0 from h0) (by decide)
  cases hc : spec_l1Key_v x0.fMiner
  · rw [ha, hb, hc] at h0; exact absurd (show (3 : Int) = 0 from h0) (by decide)
  rw [ha, hb, hc] at h0
  cases hd : ((x0.fPrev == 0) != (x0.fHeight == 1))
  · rw [hd] at h0
    cases he : decide (6 < (x0.fTxs.length : Int))
    · rw [he] at h0
      have h1 : onO ((List.range' 0 (x0.fTxs.length - 0)).findSome? (fun (i0 : Nat) => (bif !(spec_l1In_v (gt x0.fTxs (i0 : Int)) 1 60) then (some (3 : Int)) else (bif (spec_l4Among_v (x0.fTxs.take ((i0 : Int)).toNat) (gt x0.fTxs (i0 : Int))) then (some 7) else none)))) (fun r => r) 0 = 0 := h0
      obtain ⟨h2, _⟩ := onO_zero h1 (fun i => by
        cases spec_l1In_v (gt x0.fTxs (i : Int)) 1 60
        · simp
        · cases spec_l4Among_v (x0.fTxs.take ((i : Int)).toNat) (gt x0.fTxs (i : Int)) <;> simp)
      have hk := fs_all h2
      simp only [spec_l1In_v, spec_l1Key_v, Bool.and_eq_true, decide_eq_true_eq] at ha hb hc
      have he' := of_decide_eq_false he
      refine ⟨ha, hb, hc, by omega, fun x hx => ?_⟩
      obtain ⟨i, hi, rfl⟩ := List.getElem_of_mem hx
      have h4 := hk i hi
      rw [gt_eq (by simpa using hi)] at h4
      cases h5 : spec_l1In_v x0.fTxs[i] 1 60
      · simp only [Int.toNat_natCast] at h4; rw [h5] at h4; cases h4
      · simp only [spec_l1In_v, Bool.and_eq_true, decide_eq_true_eq] at h5
        exact h5
    · rw [he] at h0; exact absurd (show (2 : Int) = 0 from h0) (by decide)
  · rw [hd] at h0; exact absurd (show (1 : Int) = 0 from h0) (by decide)
theorem spec_l2Digits_ev (n : Int) (h0 : 0 ≤ n) (h1 : n ≤ 1000000) : Evt (fun k => spec_l2Digits.f k n) (mkB (dgL n)) := by
  have key : ∀ u : Nat, u ≤ 1000000 → Evt (fun k => spec_l2Digits.f k (u : Int)) (mkB (Lib.decDigits u)) := by
    intro u
    induction u using Nat.strongRecOn with
    | _ u ih =>
      intro hu
      refine Evt.s ?_
      simp only [spec_l2Digits.f_s]
      by_cases h : u < 10
      · have e1 : IntKind.u8.wrap (wrap64 (48 + (u : Int))) = ((48 + u : Nat) : Int) := by rw [wrap64_in _ (by omega), u8_in _ (by omega)]; omega
        rw [e1, Lib.decDigits, dif_pos h]
        exact Evt.t (by simp; omega) (Evt.self _)
      · have e1 : IntKind.i64.wrap (Int.tdiv (u : Int) 10) = ((u / 10 : Nat) : Int) := by rw [i64_quo _ _ ⟨by omega, by omega, by omega⟩]; omega
        have e0 : Int.tmod (u : Int) 10 = ((u % 10 : Nat) : Int) := by rw [rem_in _ _ (by omega)]; omega
        have e2 : IntKind.u8.wrap (wrap64 (48 + (Int.tmod (u : Int) 10))) = ((48 + u % 10 : Nat) : Int) := by rw [e0, wrap64_in _ (by omega), u8_in _ (by omega)]; omega
        have hl' : (Lib.decDigits (u / 10)).length ≤ u / 10 + 1 := by
          have hl := dgL_len ((u / 10 : Nat) : Int) (u / 10) (Int.toNat_natCast _)
          unfold dgL at hl
          rw [Int.toNat_natCast] at hl
          exact hl
        refine Evt.f (by simp; omega) (Evt.chk rfl (Evt.chk rfl ?_))
        rw [e1, e2]
        have e3 : strOfNums ([((48 + u % 10 : Nat) : Int)] : List Int) = mkB [UInt8.ofNat (48 + u % 10)] := rfl
        refine (Evt.bind (ih (u / 10) (by omega) (by omega)) (Evt.chk ?_ (Evt.self _))).to ?_
        · refine decide_eq_true ?_
          rw [mkB_size, e3, mkB_size]; simp; omega
        · rw [e3, mkB_append, Lib.decDigits.eq_1 u, dif_neg h]
  have := key n.toNat (by omega)
  rw [Int.toNat_of_nonneg h0] at this
  exact this
theorem spec_l7Text_round (b : Block) (hb : BlockOK b) (i : Nat) (acc sep : List UInt8) (hlt : i < b.fTxs.length) (hs : sep.length = 1) (hl : acc.length ≤ 100000) (hz : (bif ((i : Int) == 0) then some (⟨#[32]⟩ : ByteArray) else some (⟨#[43]⟩ : ByteArray)) = some (mkB sep)) {r : ByteArray}
    (h : Evt (fun k => spec_l7Text.l0 b k (mkB (acc ++ sep ++ dgL b.fTxs[i])) ((i + 1 : Nat) : Int)) r) : Evt (fun k => spec_l7Text.l0 b k (mkB acc) (i : Int)) r := by
  have hx := hb.txs _ (gt_mem hlt)
  have hd := dg3 (gt b.fTxs (i : Int)) (by omega) (by omega)
  have hg : gt b.fTxs (i : Int) = b.fTxs[i] := gt_eq (by simpa using hlt)
  refine Evt.s ?_
  simp only [spec_l7Text.l0_s, hz, Option.bind_some, mkB_size]
  refine Evt.t (int_lt hlt) (Evt.chk (leB_mk (by omega)) (Evt.chk (idx_ok hlt) (Evt.bind (spec_l2Digits_ev (gt b.fTxs (i : Int)) (by omega) (by omega)) ?_)))
  simp only [mkB_append, mkB_size, List.length_append, List.length_cons, List.length_nil]
  refine Evt.chk (leB_mk (by omega)) ?_
  rw [w64 hlt (by have := hb.n6; omega), hg]
  exact h
theorem spec_l7Text_loop (b : Block) (hb : BlockOK b) : ∀ (d i : Nat) (acc : List UInt8), 1 ≤ i → i + d = b.fTxs.length → acc.length + 1100 * d ≤ 100000 → Evt (fun k => spec_l7Text.l0 b k (mkB acc) (i : Int)) (mkB (acc ++ Lib.joinTail [43] ((b.fTxs.drop i).map dgL)))
  | 0, i, acc, h1, hi, hl => by
    rw [List.drop_of_length_le (by omega)]
    refine Evt.s ?_
    simp only [spec_l7Text.l0_s]
    exact Evt.f (ge_lt (by omega)) (Evt.ret (by simp [Lib.joinTail]))
  | d + 1, i, acc, h1, hi, hl => by
    have hlt : i < b.fTxs.length := by omega
    have hx := hb.txs _ (List.getElem_mem hlt)
    have hd := dg3 b.fTxs[i] (by omega) (by omega)
    have hz : ((i : Int) == 0) = false := by simp; omega
    refine spec_l7Text_round b hb i acc [43] hlt rfl (by omega) (by rw [hz]; rfl) ?_
    refine (spec_l7Text_loop b hb d (i + 1) _ (by omega) (by omega) (by simp only [List.length_append, List.length_cons, List.length_nil]; omega)).to ?_
    have ed : b.fTxs.drop i = b.fTxs[i] :: b.fTxs.drop (i + 1) := List.drop_eq_getElem_cons hlt
    rw [ed, List.map_cons]
    unfold Lib.joinTail
    rw [List.map_cons, List.flatten_cons]
    simp only [List.append_assoc, List.cons_append, List.nil_append]
def spec_l7Text_v (b : Block) : ByteArray := mkB (blockL b)
theorem spec_l7Text_ev (b : Block) (hb0 : smBlock b) (hpre : (spec_l7Fault_v b != 0) = false) : Evt (fun k => spec_l7Text.f k b) (spec_l7Text_v b) := by
  have hb := block_ok b hpre
  have hd1 := dg3 b.fPrev hb.prev.1 (by have := hb.prev; omega)
  have hd2 := dg3 b.fHeight (by have := hb.height; omega) (by have := hb.height; omega)
  have hd3 := dg3 b.fMiner (by have := hb.miner; omega) (by have := hb.miner; omega)
  have c1 : (⟨#[98, 108, 111, 99, 107, 32]⟩ : ByteArray) = mkB [98, 108, 111, 99, 107, 32] := rfl
  have c2 : (⟨#[32]⟩ : ByteArray) = mkB [32] := rfl
  have c3 : (⟨#[32, 45]⟩ : ByteArray) = mkB [32, 45] := rfl
  unfold spec_l7Text.f
  simp only [c1, c2, c3]
  refine Evt.bind (spec_l2Digits_ev b.fPrev hb.prev.1 (by have := hb.prev; omega)) ?_
  simp only [mkB_append, mkB_size, List.length_append, List.length_cons, List.length_nil]
  refine Evt.chk (leB_mk (by omega)) (Evt.chk (leB_mk (by omega)) (Evt.bind (spec_l2Digits_ev b.fHeight (by have := hb.height; omega) (by have := hb.height; omega)) ?_))
  simp only [mkB_append, mkB_size, List.length_append, List.length_cons, List.length_nil]
  refine Evt.chk (leB_mk (by omega)) (Evt.chk (leB_mk (by omega)) (Evt.bind (spec_l2Digits_ev b.fMiner (by have := hb.miner; omega) (by have := hb.miner; omega)) ?_))
  simp only [mkB_append, mkB_size, List.length_append, List.length_cons, List.length_nil]
  refine Evt.chk (leB_mk (by omega)) ?_
  unfold spec_l7Text_v blockL
  cases hz : ((b.fTxs.length : Int) == 0)
  · have hlt : 0 < b.fTxs.length := by
      have : ¬ (b.fTxs.length : Int) = 0 := by simpa using hz
      omega
    have hx := hb.txs _ (List.getElem_mem hlt)
    have hd := dg3 b.fTxs[0] (by omega) (by omega)
    refine Evt.f rfl (Evt.bind (spec_l7Text_round b hb 0 _ [32] hlt rfl (by simp only [List.length_append, List.length_cons, List.length_nil]; omega) rfl (spec_l7Text_loop b hb (b.fTxs.length - 1) 1 _ (by omega) (by omega) (by have := hb.n6; simp only [List.length_append, List.length_cons, List.length_nil]; omega))) (Evt.ret ?_))
    have ed : b.fTxs = b.fTxs[0] :: b.fTxs.drop 1 := by simpa using List.drop_eq_getElem_cons hlt
    have ej : Lib.join (b.fTxs.map dgL) [43] = dgL b.fTxs[0] ++ Lib.joinTail [43] ((b.fTxs.drop 1).map dgL) := by
      conv => lhs; rw [ed]
      rw [List.map_cons, Lib.join_cons]
    rw [ej]
    simp [List.append_assoc]
  · refine Evt.t rfl (Evt.chk (leB_mk (by omega)) (Evt.ret ?_))
    simp [List.append_assoc]
def spec_BlockText_v (x0 : Block) : TextResult := (bif ((spec_l7Fault_v x0) != 0) then (⟨(spec_l7Fault_v x0), (⟨#[]⟩ : ByteArray)⟩ : TextResult) else (⟨0, (spec_l7Text_v x0)⟩ : TextResult))
theorem spec_BlockText_ev (x0 : Block) (h_x0 : smBlock x0) : Evt (fun k => spec_BlockText.f k x0) (spec_BlockText_v x0) :=
  (Evt.bind (spec_l7Fault_ev x0 (h_x0)) (Evt.ifh (fun hc0 => (Evt.self _)) (fun hc0 => (Evt.bind (spec_l7Text_ev x0 (h_x0) (by first | assumption | (simp_all; omega) | (have hf0 := h_x0.2.2.2.1; simp only [leB, decide_eq_true_eq, List.length_append, List.length_cons, List.length_nil]; omega))) (Evt.self _)))))
def impl_within_v (x0 : Int) (x1 : Int) (x2 : Int) : Bool := ((decide (x1 ≤ x0)) && (decide (x0 ≤ x2)))
theorem impl_within_ev (x0 : Int) (x1 : Int) (x2 : Int)  : Evt (fun k => impl_within.f k x0 x1 x2) (impl_within_v x0 x1 x2) :=
  (Evt.self _)
def impl_isKey_v (x0 : Int) : Bool := (impl_within_v x0 1 999)
theorem impl_isKey_ev (x0 : Int)  : Evt (fun k => impl_isKey.f k x0) (impl_isKey_v x0) :=
  (Evt.bind (impl_within_ev x0 1 999) (Evt.self _))
def impl_isId_v (x0 : Int) : Bool := (impl_within_v x0 1 60)
theorem impl_isId_ev (x0 : Int)  : Evt (fun k => impl_isId.f k x0) (impl_isId_v x0) :=
  (Evt.bind (impl_within_ev x0 1 60) (Evt.self _))
def slices_Index_int64_v (x0 : List Int) (x1 : Int) : Int := (onO ((List.range' 0 (x0.length - 0)).findSome? (fun (i0 : Nat) => (bif (x1 == (gt x0 (i0 : Int))) then (some (i0 : Int)) else none))) (fun r => r) (-1))
theorem slices_Index_int64_ev (x0 : List Int) (x1 : Int) (h_x0 : (Lm tr) x0) : Evt (fun k => slices_Index_int64.f k x0 x1) (slices_Index_int64_v x0 x1) :=
  (Evt.loop (r' := fun r => r) (Evt.srch (L := (fun k i => slices_Index_int64.l0 x0 x1 k i)) 0 x0.length (by have := h_x0; first | (have := this.1; omega) | omega) (fun (i0 : Nat) => (bif (x1 == (gt x0 (i0 : Int))) then (some (i0 : Int)) else none)) (fun i0 hs2 hi2 => by
  have hbn : x0.length ≤ 9223372036854775807 := (by have := h_x0; first | (have := this.1; omega) | omega)
  simp only [slices_Index_int64.l0_s]
  exact Evt_t2 (int_lt hi2) (StE.chk (by first | exact idx_ok (by omega) | exact idx_ok (by have hq := len_eq (by assumption); omega) | exact idx_found (show (0 : Int) ≤ (i0 : Int) by simp_all) | exact cut_ok (by omega) | exact or_ok (idx_ok (by omega)) | (refine or1 (fun hz => pre_ok (by simp at hz; omega) (by omega) (by omega))) | exact pre_ok (by omega) (by omega) (by omega) | (simp_all [idxOk, cutOk, leB]; done) | (simp_all [idxOk, cutOk, leB]; omega) | (simp [idxOk, cutOk, leB] at *; omega) | (have hf0 := h_x0.1; simp only [leB, decide_eq_true_eq, List.length_append, List.length_cons, List.length_nil]; omega)) (StE.ifh (fun hc1 => (StE.ret _)) (fun hc1 => StE.next)))) (fun j hj => by
  simp only [slices_Index_int64.l0_s]
  exact Evt.f (ge_lt hj) (Evt.self _))) (fun _ => rfl) (Evt.self _))
def slices_Contains_int64_v (x0 : List Int) (x1 : Int) : Bool := (decide (0 ≤ (slices_Index_int64_v x0 x1)))
theorem slices_Contains_int64_ev (x0 : List Int) (x1 : Int) (h_x0 : (Lm tr) x0) : Evt (fun k => slices_Contains_int64.f k x0 x1) (slices_Contains_int64_v x0 x1) :=
  (Evt.bind (slices_Index_int64_ev x0 x1 (h_x0)) (Evt.self _))
theorem slices_Contains_int64_any (x0 : List Int) (x1 : Int) : slices_Contains_int64_v x0 x1 = (List.range' 0 (x0.length - 0)).any (fun (i0 : Nat) => (x1 == (gt x0 (i0 : Int)))) := idx_any _ _
def impl_BlockFault_v (x0 : Block) : Int := (bif (((!(impl_within_v x0.fPrev 0 60)) || (!(bif (!(!(impl_within_v x0.fPrev 0 60))) then (impl_within_v x0.fHeight 1 40) else default))) || (!(bif (!((!(impl_within_v x0.fPrev 0 60)) || (!(bif (!(!(impl_within_v x0.fPrev 0 60))) then (impl_within_v x0.fHeight 1 40) else default)))) then (impl_isKey_v x0.fMiner) else default))) then 3 else (bif ((x0.fPrev == 0) != (x0.fHeight == 1)) then 1 else (bif (decide (6 < (x0.fTxs.length : Int))) then 2 else (onO ((List.range' 0 (x0.fTxs.length - 0)).findSome? (fun (i0 : Nat) => (bif !(impl_isId_v (gt x0.fTxs (i0 : Int))) then (some 3) else (bif (slices_Contains_int64_v (x0.fTxs.take ((i0 : Int)).toNat) (gt x0.fTxs (i0 : Int))) then (some 7) else none)))) (fun r => r) 0))))
theorem impl_BlockFault_ev (x0 : Block) (h_x0 : smBlock x0) : Evt (fun k => impl_BlockFault.f k x0) (impl_BlockFault_v x0) :=
  (Evt.bind (impl_within_ev x0.fPrev 0 60) (Evt.bind (Evt.ifh (fun _ => (impl_within_ev x0.fHeight 1 40)) (fun _ => Evt.self _)) (Evt.bind (Evt.ifh (fun _ => (impl_isKey_ev x0.fMiner)) (fun _ => Evt.self _)) (Evt.ifh (fun hc5 => (Evt.self _)) (fun hc5 => (Evt.ifh (fun hc4 => (Evt.self _)) (fun hc4 => (Evt.ifh (fun hc3 => (Evt.self _)) (fun hc3 => (Evt.loop (r' := fun r => r) (Evt.srch (L := (fun k i => impl_BlockFault.l0 x0 k i)) 0 x0.fTxs.length (by have := h_x0.2.2.2; first | (have := this.1; omega) | omega) (fun (i0 : Nat) => (bif !(impl_isId_v (gt x0.fTxs (i0 : Int))) then (some 3) else (bif (slices_Contains_int64_v (x0.fTxs.take ((i0 : Int)).toNat) (gt x0.fTxs (i0 : Int))) then (some 7) else none))) (fun i0 hs3 hi3 => by
  have hbn : x0.fTxs.length ≤ 9223372036854775807 := (by have := h_x0.2.2.2; first | (have := this.1; omega) | omega)
  simp only [impl_BlockFault.l0_s]
  exact Evt_t2 (int_lt hi3) (StE.chk (by first | exact idx_ok (by omega) | exact idx_ok (by have hq := len_eq (by assumption); omega) | exact idx_found (show (0 : Int) ≤ (i0 : Int) by simp_all) | exact cut_ok (by omega) | exact or_ok (idx_ok (by omega)) | (refine or1 (fun hz => pre_ok (by simp at hz; omega) (by omega) (by omega))) | exact pre_ok (by omega) (by omega) (by omega) | (simp_all [idxOk, cutOk, leB]; done) | (simp_all [idxOk, cutOk, leB]; omega) | (simp [idxOk, cutOk, leB] at *; omega) | (have hf0 := h_x0.2.2.2.1; simp only [leB, decide_eq_true_eq, List.length_append, List.length_cons, List.length_nil]; omega)) (StE.bind (impl_isId_ev (gt x0.fTxs (i0 : Int))) (StE.ifh (fun hc2 => (StE.ret _)) (fun hc2 => (StE.chk (by first | exact idx_ok (by omega) | exact idx_ok (by have hq := len_eq (by assumption); omega) | exact idx_found (by simp_all) | exact cut_ok (by omega) | exact or_ok (idx_ok (by omega)) | (refine or1 (fun hz => pre_ok (by simp at hz; omega) (by omega) (by omega))) | exact pre_ok (by omega) (by omega) (by omega) | (simp_all [idxOk, cutOk, leB]; done) | (simp_all [idxOk, cutOk, leB]; omega) | (simp [idxOk, cutOk, leB] at *; omega) | (have hf0 := h_x0.2.2.2.1; simp only [leB, decide_eq_true_eq, List.length_append, List.length_cons, List.length_nil]; omega)) (StE.bind (slices_Contains_int64_ev (x0.fTxs.take ((i0 : Int)).toNat) (gt x0.fTxs (i0 : Int)) ((Lm_take h_x0.2.2.2))) (StE.ifh (fun hc1 => (StE.ret _)) (fun hc1 => StE.next))))))))) (fun j hj => by
  simp only [impl_BlockFault.l0_s]
  exact Evt.f (ge_lt hj) (Evt.self _))) (fun _ => rfl) (Evt.self _)))))))))))
theorem contains_int64 (xs : List Int) (x : Int) : slices_Contains_int64_v xs x = spec_l4Among_v xs x := by
  have e : (fun i : Nat => x == gt xs (i : Int)) = fun i : Nat => gt xs (i : Int) == x := by funext i; exact BEq.comm
  rw [slices_Contains_int64_any, e]; simp only [spec_l4Among_v, found_any, bifb]
theorem blockFault_same (x0 : Block) : impl_BlockFault_v x0 = spec_l7Fault_v x0 := by
  simp only [impl_BlockFault_v, spec_l7Fault_v, contains_int64, impl_isId_v, impl_within_v, spec_l1In_v, impl_isKey_v, spec_l1Key_v]
def strconv_FormatInt_v (x0 x1 : Int) : ByteArray := mkB (dgL x0)
theorem strconv_FormatInt_ev (n : Int) (h0 : 0 ≤ n) (h1 : n ≤ 1000000) : Evt (fun k => strconv_FormatInt.f k n 10) (mkB (dgL n)) := by
  refine Evt.chk ?_ (Evt.ret (itoa_dg n h0))
  have e1 : decide ((-9223372036854775808 : Int) ≤ n) = true := decide_eq_true (by omega)
  have e2 : decide (n ≤ (9223372036854775807 : Int)) = true := decide_eq_true (by omega)
  rw [e1, e2]; rfl
theorem impl_dec_ev (n : Int) (h0 : 0 ≤ n) (h1 : n ≤ 1000000) : Evt (fun k => impl_dec.f k n) (mkB (dgL n)) := Evt.bind (strconv_FormatInt_ev n h0 h1) (Evt.self _)
theorem strings_Join_ev (xs : List (List UInt8)) (sep : List UInt8) (hn : xs.length ≤ 1000000) (hl : (Lib.join xs sep).length ≤ 1000000) : Evt (fun k => strings_Join.f k (xs.map mkB) (mkB sep)) (mkB (Lib.join xs sep)) := by
  have e1 : (xs.map mkB).map (·.data.toList) = xs := by rw [List.map_map]; simp [mkB, Function.comp_def]
  have e2 : (mkB sep).data.toList = sep := by simp [mkB]
  unfold strings_Join.f
  rw [e1, e2]
  refine Evt.chk ?_ (Evt.self _)
  rw [Bool.and_eq_true]
  exact ⟨decide_eq_true (by rw [List.length_map]; omega), decide_eq_true (by omega)⟩
theorem impl_joined_ev (xs : List Int) (sep : List UInt8) (hn : xs.length ≤ 1000) (hk : ∀ x ∈ xs, 0 ≤ x ∧ x ≤ 999) (hl : (Lib.join (xs.map dgL) sep).length ≤ 1000000) : Evt (fun k => impl_joined.f k xs (mkB sep)) (mkB (Lib.join (xs.map dgL) sep)) := by
  have h1 := Evt.gatherL (L := fun k ac i => impl_joined.l0 xs k ac i) xs.length (by omega) (fun ac i => ac ++ [mkB (dgL (gt xs (i : Int)))]) (fun i hi a ha => by simp; omega) (fun i hi a ha o hg => by
    have hx := hk _ (gt_mem hi)
    simp only [impl_joined.l0_s]
    refine Evt.t (int_lt hi) (Evt.chk (idx_ok hi) (Evt.bind (impl_dec_ev (gt xs (i : Int)) (by omega) (by omega)) (Evt.chk ?_ hg)))
    refine decide_eq_true ?_
    simp only [List.length_cons, List.length_nil]; omega) (fun i a hi => by
    simp only [impl_joined.l0_s]
    exact Evt.f (ge_lt hi) (Evt.self _))
  have e := range_foldl xs (fun (ac : List ByteArray) x => ac ++ [mkB (dgL x)]) []
  have e2 := fold_map (fun x => mkB (dgL x)) xs []
  have h2 : Evt (fun k => impl_joined.l0 xs k [] 0) ((xs.map dgL).map mkB) := h1.to (e.trans (e2.trans (by rw [List.nil_append, List.map_map]; rfl)))
  refine Evt.bind h2 (Evt.bind (strings_Join_ev (xs.map dgL) sep (by rw [List.length_map]; omega) hl) (Evt.self _))
theorem impl_blockText_ev (b : Block) (hb : BlockOK b) : Evt (fun k => impl_blockText.f k b) (mkB (blockL b)) := by
  have c1 : (⟨#[98, 108, 111, 99, 107, 32]⟩ : ByteArray) = mkB [98, 108, 111, 99, 107, 32] := rfl
  have c2 : (⟨#[32]⟩ : ByteArray) = mkB [32] := rfl
  have c3 : (⟨#[45]⟩ : ByteArray) = mkB [45] := rfl
  have c4 : (⟨#[43]⟩ : ByteArray) = mkB [43] := rfl
  have h3 : ∀ x ∈ [b.fPrev, b.fHeight, b.fMiner], 0 ≤ x ∧ x ≤ 999 := by
    have := hb.prev; have := hb.height; have := hb.miner
    intro x hx
    simp only [List.mem_cons, List.not_mem_nil, or_false] at hx
    rcases hx with rfl | rfl | rfl <;> omega
  have hj := join_le (m := 1000) (n := 3) (sep := [32]) (xs := [b.fPrev, b.fHeight, b.fMiner].map dgL) (by
    intro x hx
    obtain ⟨y, hy, rfl⟩ := List.mem_map.1 hx
    exact dg3 y (h3 y hy).1 (h3 y hy).2) (by simp)
  have hk := join_le (m := 1000) (n := 6) (sep := [43]) (xs := b.fTxs.map dgL) (by
    intro x hx
    obtain ⟨y, hy, rfl⟩ := List.mem_map.1 hx
    have := hb.txs y hy
    exact dg3 y (by omega) (by omega)) (by rw [List.length_map]; exact hb.n6)
  simp only [List.length_cons, List.length_nil] at hj hk
  unfold impl_blockText.f blockL
  simp only [c1, c2, c3, c4]
  have h1 : Evt (fun k => (bif (decide (0 < (b.fTxs.length : Int))) then ((impl_joined.f k b.fTxs (mkB [43])).bind fun t1124 => some t1124) else some (mkB [45]))) (mkB (bif (b.fTxs.length : Int) == 0 then [45] else Lib.join (b.fTxs.map dgL) [43])) := by
    cases hz : ((b.fTxs.length : Int) == 0)
    · have hz' : ¬ (b.fTxs.length : Int) = 0 := by simpa using hz
      refine Evt.t (decide_eq_true (by omega)) (Evt.bind (impl_joined_ev b.fTxs [43] (by have := hb.n6; omega) (fun x hx => by have := hb.txs x hx; omega) (by omega)) (Evt.self _))
    · have hz' : (b.fTxs.length : Int) = 0 := by simpa using hz
      exact Evt.f (decide_eq_false (by omega)) (Evt.self _)
  have hq : (bif (b.fTxs.length : Int) == 0 then [45] else Lib.join (b.fTxs.map dgL) [43]).length ≤ 7000 := by
    cases (b.fTxs.length : Int) == 0
    · simp only [cond_false]; omega
    · simp only [cond_true, List.length_cons, List.length_nil]; omega
  refine Evt.bind h1 (Evt.bind (impl_joined_ev [b.fPrev, b.fHeight, b.fMiner] [32] (by simp) h3 (by omega)) ?_)
  simp only [mkB_append, mkB_size, List.length_append, List.length_cons, List.length_nil]
  refine Evt.chk (leB_mk (by omega)) (Evt.chk (leB_mk (by omega)) (Evt.chk (leB_mk (by omega)) (Evt.ret ?_)))
  have ej : Lib.join ([b.fPrev, b.fHeight, b.fMiner].map dgL) [32] = dgL b.fPrev ++ [32] ++ dgL b.fHeight ++ [32] ++ dgL b.fMiner := by
    simp [Lib.join_cons, Lib.joinTail, List.append_assoc]
  rw [ej]
  simp [List.append_assoc]
def impl_BlockText_v (x0 : Block) : TextResult := (bif ((impl_BlockFault_v x0) != 0) then (⟨(impl_BlockFault_v x0), (⟨#[]⟩ : ByteArray)⟩ : TextResult) else (⟨0, mkB (blockL x0)⟩ : TextResult))
theorem impl_BlockText_ev (x0 : Block) (h_x0 : smBlock x0) : Evt (fun k => impl_BlockText.f k x0) (impl_BlockText_v x0) := by
  refine Evt.bind (impl_BlockFault_ev x0 h_x0) (Evt.ifh (fun hc => Evt.self _) (fun hc => Evt.bind (impl_blockText_ev x0 (block_ok x0 (by rw [← blockFault_same]; exact hc))) (Evt.self _)))
theorem eqTextResult_ev (x : TextResult) (h : smTextResult x) : Evt (fun k => laws_eqTextResult.f k x x) true := Evt.f (by simp [sEq_refl]) (Evt.f (by simp [sEq_refl]) (Evt.self _))
theorem eqInt64S_ev (x : List Int) (h : (Lm tr) x) : Evt (fun k => laws_eqInt64S.f k x x) true := by
  have hn := h.1
  refine (Evt.eqr (L := fun k i => laws_eqInt64S.l0 x x k i) (fun _ _ => true) x x (by omega) (fun i h1 h2 o ht hf => ?_) ?_).to (eqRows_refl (fun _ => rfl) x)
  · refine Evt.s ?_
    simp only [laws_eqInt64S.l0_s]
    exact Evt.t (int_lt h1) (Evt.chk (idx_ok h1) (Evt.chk (idx_ok h2) (Evt.f (by simp [sEq_refl]) (ht rfl))))
  · refine Evt.s ?_
    simp only [laws_eqInt64S.l0_s]
    exact Evt.f int_nlt (Evt.self _)
theorem eqBlock_ev (x : Block) (h : smBlock x) : Evt (fun k => laws_eqBlock.f k x x) true := Evt.f (by simp [sEq_refl]) (Evt.f (by simp [sEq_refl]) (Evt.f (by simp [sEq_refl]) (Evt.bind (eqInt64S_ev _ h.2.2.2) (Evt.f rfl (Evt.self _)))))
theorem same_FnExactBlockText (x0 : Block) (h0 : smBlock x0) (o0 : okBlock x0) : impl_BlockText_v x0 = spec_BlockText_v x0 := by
  unfold impl_BlockText_v spec_BlockText_v
  rw [blockFault_same]
  rfl
end Go.Proofs.YtdhkcglfeiapoaaDoor.Zk
namespace Go.Proofs.YtdhkcglfeiapoaaDoor.Pure
open Go Go.Proofs.YtdhkcglfeiapoaaDoor.Zk
theorem FnExactBlockText (x0 : Zk.Block) (o_x0 : okBlock x0) : ∃ k, laws_FnExactBlockText.f k x0 = some true := by
  refine Evt.get ?_
  obtain ⟨t0, e0, l0, s0⟩ := szBlock_ev x0 o_x0 1048576 (by omega) (by omega)
  by_cases c0 : t0 < 0
  · exact Evt.bind e0 (Evt.t (by simpa using c0) (Evt.self _))
  refine Evt.bind e0 (Evt.f (by simpa using c0) ?_)
  have m0 := s0 (by omega)
  refine Evt.bind (toBlock_ev x0 (m0)) ?_
  refine Evt.bind (spec_BlockText_ev x0 (m0)) ?_
  refine Evt.bind (toBlock_ev x0 (m0)) ?_
  refine Evt.bind ((impl_BlockText_ev x0 (m0)).to (same_FnExactBlockText x0 (m0) o_x0)) ?_
  refine Evt.bind (eqTextResult_ev _ (by repeat' (first | trivial | constructor))) (Evt.f rfl ?_)
  refine Evt.bind (toBlock_ev x0 (m0)) ?_
  refine Evt.bind (eqBlock_ev _ (m0)) (Evt.f rfl ?_)
  exact Evt.self _
end Go.Proofs.YtdhkcglfeiapoaaDoor.Pure
