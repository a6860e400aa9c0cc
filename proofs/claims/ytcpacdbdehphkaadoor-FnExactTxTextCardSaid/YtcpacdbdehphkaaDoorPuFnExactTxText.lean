/- The plain law of FnExactTxText: what the program's function and the reference's compute is the same. No condition. -/
import Derived.Test.YtcpacdbdehphkaaDoorZkPure
import Derived.Test.YtcpacdbdehphkaaDoorTxTextZkOpn
import Derived.Test.YtcpacdbdehphkaaDoorTxTextZkF6
namespace Go.Proofs.YtcpacdbdehphkaaDoor.Zk
open Go Go.RowKit Go.IntWalk
set_option linter.unusedVariables false
set_option linter.unusedSimpArgs false

def szL (n : Nat) (l : Int) : Int := bif decide (wrap64 (l - n) < 0) then -1 else wrap64 (l - n)
theorem szL_ok {n : Nat} {l : Int} (h : decide (szL n l < 0) = false) (h0 : 0 ≤ l) (h1 : l ≤ 1048576) (hn : n ≤ maxLen) : (n : Int) ≤ l ∧ szL n l = l - n := by
  unfold szL at *
  have hn' : n ≤ 9223372036854775807 := by simpa [maxLen] using hn
  have e : wrap64 (l - n) = l - n := by unfold wrap64; omega
  rw [e] at h ⊢
  by_cases hc : l - (n : Int) < 0
  · rw [decide_eq_true hc] at h; cases h
  · rw [decide_eq_false hc]; exact ⟨by omega, rfl⟩
theorem szL_le {n : Nat} {l : Int} (h0 : 0 ≤ l) (h1 : l ≤ 1048576) (hn : n ≤ maxLen) : szL n l ≤ l := by
  unfold szL
  have hn' : n ≤ 9223372036854775807 := by simpa [maxLen] using hn
  have e : wrap64 (l - n) = l - n := by unfold wrap64; omega
  rw [e]
  by_cases hc : l - (n : Int) < 0
  · rw [decide_eq_true hc]; show (-1 : Int) ≤ l; omega
  · rw [decide_eq_false hc]; show l - (n : Int) ≤ l; omega
theorem nn {l : Int} (h : decide (l < 0) = false) : 0 ≤ l := by simpa using h
abbrev tr {α : Type} (x : α) : Prop := True
def Lm {α : Type} (sm : α → Prop) (xs : List α) : Prop := xs.length ≤ 1048576 ∧ ∀ x ∈ xs, sm x
theorem gt_mem {α : Type} [Inhabited α] {xs : List α} {i : Nat} (h : i < xs.length) : gt xs (i : Int) ∈ xs := by
  rw [gt_eq (i := (i : Int)) (by simpa using h)]
  exact List.getElem_mem _
/-- Sizes, added up. -/
theorem Evt.szl {α : Type} [Inhabited α] {L : Nat → Int → Int → Option (Int ⊕ Int)} {sm : α → Prop} (xs : List α) (hn : xs.length ≤ 9223372036854775807)
    (step : ∀ i, i < xs.length → ∀ left, 0 ≤ left → left ≤ 1048576 → ∃ t, t ≤ left ∧ (0 ≤ t → sm (gt xs (i : Int))) ∧ (t < 0 → Evt (fun k => L k left (i : Int)) (.inl (-1))) ∧ ∀ o, 0 ≤ t → Evt (fun k => L k t (wrap64 ((i : Int) + 1))) o → Evt (fun k => L k left (i : Int)) o)
    (done : ∀ left, Evt (fun k => L k left (xs.length : Int)) (.inr left)) (l : Int) (h0 : 0 ≤ l) (h1 : l ≤ 1048576) :
    ∃ o, Evt (fun k => L k l 0) o ∧ match o with | .inl r => r = -1 | .inr t => 0 ≤ t ∧ t ≤ l ∧ ∀ x ∈ xs, sm x := by
  have key : ∀ d i l, i + d = xs.length → 0 ≤ l → l ≤ 1048576 → ∃ o, Evt (fun k => L k l (i : Int)) o ∧ match o with | .inl r => r = -1 | .inr t => 0 ≤ t ∧ t ≤ l ∧ ∀ j, i ≤ j → j < xs.length → sm (gt xs (j : Int)) := by
    intro d
    induction d with
    | zero =>
      intro i l hi h0 h1
      have e : i = xs.length := by omega
      subst e
      exact ⟨_, done l, h0, by omega, fun j h2 h3 => by omega⟩
    | succ d ih =>
      intro i l hi h0 h1
      obtain ⟨t, a1, a2, a3, a4⟩ := step i (by omega) l h0 h1
      by_cases c : t < 0
      · exact ⟨_, a3 c, rfl⟩
      · obtain ⟨o, b1, b2⟩ := ih (i + 1) t (by omega) (by omega) (by omega)
        refine ⟨o, a4 o (by omega) (by rw [w64 (by omega : i < xs.length) hn]; exact b1), ?_⟩
        cases o with
        | inl r => exact b2
        | inr u =>
          refine ⟨b2.1, by have := b2.2.1; omega, fun j h2 h3 => ?_⟩
          by_cases e : j = i
          · subst e; exact a2 (by omega)
          · exact b2.2.2 j (by omega) h3
  obtain ⟨o, b1, b2⟩ := key xs.length 0 l (by omega) h0 h1
  refine ⟨o, b1, ?_⟩
  cases o with
  | inl r => exact b2
  | inr u =>
    refine ⟨b2.1, b2.2.1, fun x hx => ?_⟩
    obtain ⟨j, hj, e⟩ := List.getElem_of_mem hx
    have := b2.2.2 j (by omega) hj
    rw [gt_eq (i := (j : Int)) (by simpa using hj)] at this
    simpa [e] using this

theorem Evt_t2 {β : Type} {f g nxt : Nat → Option (β ⊕ Unit)} {c : Bool} {v : Option β} (hc : c = true) (h : StE f nxt v) : StE (fun n => bif c then f n else g n) nxt v := by subst hc; exact h
theorem Lm_take {α : Type} {sm : α → Prop} {xs : List α} {n : Nat} (h : Lm sm xs) : Lm sm (xs.take n) := ⟨by have := h.1; rw [List.length_take]; omega, fun x hx => h.2 x (List.mem_of_mem_take hx)⟩
theorem Lm_drop {α : Type} {sm : α → Prop} {xs : List α} {n : Nat} (h : Lm sm xs) : Lm sm (xs.drop n) := ⟨by have := h.1; rw [List.length_drop]; omega, fun x hx => h.2 x (List.mem_of_mem_drop hx)⟩
/-! searches, told by 'any' -/
theorem found_any {β γ : Type} (l : List Nat) (p : Nat → Bool) (a : β) (r : β → γ) (c : γ) : onO (l.findSome? fun i => bif p i then some a else none) r c = bif l.any p then r a else c := by
  induction l with
  | nil => rfl
  | cons i l ih =>
    rw [List.findSome?_cons, List.any_cons]
    cases p i
    · simpa using ih
    · rfl
theorem idx_any (l : List Nat) (p : Nat → Bool) : decide (0 ≤ onO (l.findSome? fun i => bif p i then some (i : Int) else none) (fun r => r) (-1)) = l.any p := by
  induction l with
  | nil => rfl
  | cons i l ih =>
    rw [List.findSome?_cons, List.any_cons]
    cases p i
    · simpa using ih
    · simp [onO]
theorem band1 {c d e : Bool} : (c && (bif c then d else e)) = (c && d) := by cases c <;> rfl
theorem bor1 {c d e : Bool} : (c || (bif !c then d else e)) = (c || d) := by cases c <;> rfl
theorem bnn1 {c d e : Bool} : ((!c) || (!(bif (!(!c)) then d else e))) = ((!c) || (!d)) := by cases c <;> rfl
theorem bnn2 {c d : Bool} : ((!c) || (!d)) = !(c && d) := by cases c <;> rfl
theorem bnn3 {c d e : Bool} : ((!c) || (!(bif !(!c) then d else e))) = !(c && d) := by cases c <;> rfl
theorem bn_n {c d e : Bool} : (!c || !(bif c then d else e)) = !(c && d) := by cases c <;> rfl
theorem rng1 {a lo hi : Int} : (decide (a < lo) || decide (hi < a)) = !(decide (lo ≤ a) && decide (a ≤ hi)) := by
  by_cases h1 : a < lo
  · have : ¬ lo ≤ a := by omega
    simp [h1, this]
  · have h2 : lo ≤ a := by omega
    by_cases h3 : hi < a
    · have : ¬ a ≤ hi := by omega
      simp [h1, h2, h3, this]
    · have : a ≤ hi := by omega
      simp [h1, h2, h3, this]
theorem at_any (l : List Nat) (p : Nat → Bool) (h : ∀ i ∈ l, i < 4611686018427387904) : decide (0 < onO (l.findSome? fun i => bif p i then some (wrap64 ((i : Int) + 1)) else none) (fun r => r) 0) = l.any p := by
  induction l with
  | nil => rfl
  | cons i l ih =>
    rw [List.findSome?_cons, List.any_cons]
    have hi := h i (by simp)
    have hl : ∀ j ∈ l, j < 4611686018427387904 := fun j hj => h j (List.mem_cons_of_mem _ hj)
    clear h
    cases p i
    · exact ih hl
    · have e : wrap64 ((i : Int) + 1) = (i : Int) + 1 := by unfold wrap64; omega
      rw [e]
      show decide (0 < (i : Int) + 1) = true
      exact decide_eq_true (by omega)
theorem fs_congr {β : Type} {l : List Nat} {f g : Nat → Option β} (h : ∀ i ∈ l, f i = g i) : l.findSome? f = l.findSome? g := by
  induction l with
  | nil => rfl
  | cons i l ih => rw [List.findSome?_cons, List.findSome?_cons, h i (by simp), ih fun j hj => h j (by simp [hj])]
theorem any_congr' {l : List Nat} {f g : Nat → Bool} (h : ∀ i ∈ l, f i = g i) : l.any f = l.any g := by
  induction l with
  | nil => rfl
  | cons i l ih => rw [List.any_cons, List.any_cons, h i (by simp), ih fun j hj => h j (by simp [hj])]
theorem in_range {i n : Nat} (h : i ∈ List.range' 0 (n - 0)) : i < n := by
  have := List.mem_range'_1.1 h
  omega
theorem gt_take {α : Type} [Inhabited α] {xs : List α} {n j : Nat} (h : j < n) : gt (xs.take n) (j : Int) = gt xs (j : Int) := by
  unfold gt
  have e : ((j : Int)).toNat = j := by simp
  rw [e, List.getD_eq_getElem?_getD, List.getD_eq_getElem?_getD, List.getElem?_take, if_pos h]
theorem any_take {α : Type} [Inhabited α] {xs : List α} {i : Nat} (h : i ≤ xs.length) (p : α → Bool) :
    (List.range' 0 ((xs.take i).length - 0)).any (fun j => p (gt (xs.take i) (j : Int))) = (List.range' 0 (i - 0)).any (fun j => p (gt xs (j : Int))) := by
  have e : (xs.take i).length = i := by rw [List.length_take]; omega
  rw [e]
  exact any_congr' fun j hj => by rw [gt_take (in_range hj)]
theorem sEq_comm (a b : ByteArray) : sEq a b = sEq b a := by unfold sEq; exact BEq.comm
theorem bifb {b : Bool} : (bif b then true else false) = b := by cases b <;> rfl
theorem idx_found {n : Nat} {p : Nat → Bool} (h : 0 ≤ onO ((List.range' 0 (n - 0)).findSome? fun i => bif p i then some (i : Int) else none) (fun r => r) (-1)) : idxOk (onO ((List.range' 0 (n - 0)).findSome? fun i => bif p i then some (i : Int) else none) (fun r => r) (-1)) n = true := by
  have key : ∀ l : List Nat, (∀ i ∈ l, i < n) → 0 ≤ onO (l.findSome? fun i => bif p i then some (i : Int) else none) (fun r => r) (-1) → idxOk (onO (l.findSome? fun i => bif p i then some (i : Int) else none) (fun r => r) (-1)) n = true := by
    intro l
    induction l with
    | nil => intro _ h; exact absurd h (by show ¬ (0 : Int) ≤ -1; omega)
    | cons i l ih =>
      intro hl h
      rw [List.findSome?_cons] at h ⊢
      cases hp : p i
      · rw [hp] at h; exact ih (fun j hj => hl j (List.mem_cons_of_mem _ hj)) h
      · exact idx_ok (hl i (List.mem_cons_self ..))
  exact key _ (fun i hi => in_range hi) h
theorem cut_ok {i n : Nat} (h : i ≤ n) : cutOk (i : Int) n = true := by unfold cutOk; simp; omega
theorem len_eq {a b : Nat} (h : ((a : Int) != (b : Int)) = false) : a = b := by
  by_cases e : a = b
  · exact e
  · have : ((a : Int) != (b : Int)) = true := by simp; omega
    rw [this] at h; cases h

abbrev smRef (x : Ref) : Prop := tr x.fTx ∧ tr x.fAt
abbrev smRule (x : Rule) : Prop := (Lm tr) x.fKeys ∧ tr x.fNeed ∧ tr x.fAfter
abbrev smOut (x : Out) : Prop := tr x.fValue ∧ smRule x.fRule
abbrev smTx (x : Tx) : Prop := tr x.fKind ∧ tr x.fMember ∧ (Lm smRef) x.fIns ∧ (Lm smOut) x.fOuts
abbrev smTextResult (x : TextResult) : Prop := tr x.fCode ∧ tr x.fText
/-! ### Rows marked, and held so -/
theorem chkT {α : Type} (t : Option α) : Zk.chk true t = t := rfl
theorem gt_set {α : Type} [Inhabited α] {xs : List α} {i : Nat} (h : i < xs.length) (a : α) : gt (xs.set i a) (i : Int) = a := by
  rw [gt_eq (by simpa using h)]; simp
theorem mark_held {α : Type} [Inhabited α] (L : Nat → List α → Int → Int → Option (List α × Int)) (H : List α → Nat → Int → Int → Option (Int ⊕ Int)) (B : Prop) (c : Int) (hc : 0 ≤ c) (p : α → Prop)
    (step : ∀ (acc : List α) (s : Int) (i : Nat), i < acc.length → p (gt acc (i : Int)) → 1 ≤ s → s + c ≤ 4611686018427387904 → ∃ y t, s ≤ t ∧ t ≤ s + c ∧ (∀ r, Evt (fun k => L k (acc.set i y) t (wrap64 ((i : Int) + 1))) r → Evt (fun k => L (k + 1) acc s (i : Int)) r) ∧
      (B → ∀ ys : List α, i < ys.length → gt ys (i : Int) = y → ∀ r, Evt (fun k => H ys k t (wrap64 ((i : Int) + 1))) r → Evt (fun k => H ys (k + 1) s (i : Int)) r))
    (doneL : ∀ (acc : List α) (s : Int), Evt (fun k => L (k + 1) acc s (acc.length : Int)) (acc, s)) (doneH : B → ∀ (ys : List α) (s : Int), Evt (fun k => H ys (k + 1) s (ys.length : Int)) (.inr s))
    (xs : List α) (hn : xs.length ≤ 9223372036854775807) (hp : ∀ x ∈ xs, p x) (s : Int) (h1 : 1 ≤ s) (h2 : s + xs.length * c ≤ 4611686018427387904) :
    ∃ ys t, ys.length = xs.length ∧ s ≤ t ∧ t ≤ s + xs.length * c ∧ Evt (fun k => L k xs s 0) (ys, t) ∧ (B → Evt (fun k => H ys k s 0) (.inr t)) := by
  have key : ∀ (d i : Nat) (acc : List α) (s : Int), i + d = xs.length → acc.length = xs.length → (∀ j, i ≤ j → acc[j]? = xs[j]?) → 1 ≤ s → s + d * c ≤ 4611686018427387904 →
      ∃ ys t, ys.length = xs.length ∧ (∀ j, j < i → ys[j]? = acc[j]?) ∧ s ≤ t ∧ t ≤ s + d * c ∧ Evt (fun k => L k acc s (i : Int)) (ys, t) ∧ (B → Evt (fun k => H ys k s (i : Int)) (.inr t)) := by
    intro d
    induction d with
    | zero =>
      intro i acc s hi hl _ h1 h2
      have e : (i : Int) = (acc.length : Int) := by omega
      exact ⟨acc, s, hl, fun _ _ => rfl, by omega, by omega, by rw [e]; exact Evt.s (doneL acc s), fun hB => by rw [e]; exact Evt.s (doneH hB acc s)⟩
    | succ d ih =>
      intro i acc s hi hl hj h1 h2
      have e : ((d + 1 : Nat) : Int) * c = d * c + c := by rw [Int.natCast_add, Int.add_mul]; simp
      have hdc : 0 ≤ (d : Int) * c := Int.mul_nonneg (by omega) hc
      rw [e] at h2
      have hlt : i < acc.length := by omega
      have hpx : p (gt acc (i : Int)) := by
        rw [gt_eq (by simpa using hlt)]
        have h5 := hj i (Nat.le_refl _)
        rw [List.getElem?_eq_getElem hlt] at h5
        exact hp _ (List.mem_of_getElem? h5.symm)
      obtain ⟨y, t1, a1, a2, a3, a4⟩ := step acc s i hlt hpx h1 (by omega)
      obtain ⟨ys, t, b1, b2, b3, b4, b5, b6⟩ := ih (i + 1) (acc.set i y) t1 (by omega) (by simp [hl]) (fun j hj' => by rw [List.getElem?_set_ne (by omega)]; exact hj j (by omega)) (by omega) (by omega)
      have hy : gt ys (i : Int) = y := by
        have h6 := b2 i (by omega)
        rw [List.getElem?_set_self hlt] at h6
        rw [gt_eq (by simp; omega)]
        have h7 : i < ys.length := by omega
        rw [List.getElem?_eq_getElem h7] at h6
        simpa using h6
      refine ⟨ys, t, b1, fun j hj' => ?_, by omega, by rw [e]; omega, Evt.s (a3 _ ?_), fun hB => Evt.s (a4 hB ys (by omega) hy _ ?_)⟩
      · rw [b2 j (by omega), List.getElem?_set_ne (by omega)]
      · rw [w64 (by omega : i < xs.length) hn]; exact b5
      · rw [w64 (by omega : i < xs.length) hn]; exact b6 hB
  obtain ⟨ys, t, a1, _, a3, a4, a5, a6⟩ := key xs.length 0 xs s (by omega) rfl (fun _ _ => rfl) h1 h2
  exact ⟨ys, t, a1, a3, a4, a5, a6⟩
/-! ### What is gathered in a row -/
theorem len_bif {α : Type} {c : Bool} {a b : List α} {n : Nat} (h : a.length ≤ n) (k : b.length ≤ n) : (bif c then a else b).length ≤ n := by cases c; exact k; exact h
theorem Evt.gatherL {σ : Type} {L : Nat → List σ → Int → Option (List σ)} (n : Nat) (hn : n ≤ 1048576) (st : List σ → Nat → List σ)
    (len : ∀ i, i < n → ∀ a, a.length ≤ i → (st a i).length ≤ i + 1)
    (step : ∀ i, i < n → ∀ a, a.length ≤ i → ∀ o, Evt (fun k => L k (st a i) (wrap64 ((i : Int) + 1))) o → Evt (fun k => L (k + 1) a (i : Int)) o)
    (done : ∀ (i : Nat) a, n ≤ i → Evt (fun k => L (k + 1) a (i : Int)) a) : Evt (fun k => L k [] 0) ((List.range' 0 (n - 0)).foldl st []) := by
  have key : ∀ d i (a : List σ), (i + d = n ∨ n ≤ i ∧ d = 0) → a.length ≤ i → Evt (fun k => L k a (i : Int)) ((List.range' i d).foldl st a) := by
    intro d
    induction d with
    | zero => intro i a hi _; exact Evt.s (done i a (by omega))
    | succ d ih =>
      intro i a hi ha
      rw [List.range'_succ, List.foldl_cons]
      refine Evt.s (step i (by omega) a ha _ ?_)
      rw [w64 (by omega : i < n) (by omega)]
      exact ih (i + 1) (st a i) (by omega) (len i (by omega) a ha)
  exact key (n - 0) 0 [] (by omega) (by simp)
theorem fold_len {σ : Type} (st : List σ → Nat → List σ) (h : ∀ a i, (st a i).length ≤ a.length + 1) : ∀ (l : List Nat) (a : List σ), (l.foldl st a).length ≤ a.length + l.length
  | [], a => by simp
  | i :: l, a => by
    have h1 := fold_len st h l (st a i)
    have h2 := h a i
    simp only [List.foldl_cons, List.length_cons]; omega
theorem fold_len0 {σ : Type} (st : List σ → Nat → List σ) (h : ∀ a i, (st a i).length ≤ a.length + 1) (n : Nat) : ((List.range' 0 (n - 0)).foldl st []).length ≤ n := by
  have := fold_len st h (List.range' 0 (n - 0)) []
  simpa using this
theorem cut_next {t : Int} {n : Nat} (h : idxOk t n = true) (hn : n ≤ 1048576) : cutOk (wrap64 (t + 1)) n = true := by
  have h1 := idx_lo h
  have h2 := idx_hi h
  rw [wrap64_in _ (by omega)]
  unfold cutOk; simp; omega
theorem cut_self {t : Int} {n : Nat} (h : idxOk t n = true) (hn : n ≤ 1048576) : cutOk t (wrap64 (t + 1)).toNat = true := by
  have h1 := idx_lo h
  have h2 := idx_hi h
  rw [wrap64_in _ (by omega)]
  unfold cutOk; simp; omega
theorem Lm_gath {α : Type} [Inhabited α] {sm : α → Prop} (x0 : List α) (h : Lm sm x0) (c : Nat → Bool) : Lm sm ((List.range' 0 (x0.length - 0)).foldl (fun ac (i : Nat) => bif c i then ac ++ ([gt x0 (i : Int)] : List α) else ac) ([] : List α)) := by
  have key : ∀ d i (a : List α), i + d = x0.length → (∀ x ∈ a, sm x) → a.length ≤ i → (∀ x ∈ (List.range' i d).foldl (fun ac (i : Nat) => bif c i then ac ++ ([gt x0 (i : Int)] : List α) else ac) a, sm x) ∧ ((List.range' i d).foldl (fun ac (i : Nat) => bif c i then ac ++ ([gt x0 (i : Int)] : List α) else ac) a).length ≤ x0.length := by
    intro d
    induction d with
    | zero => intro i a hi ha hl; exact ⟨ha, by show a.length ≤ _; omega⟩
    | succ d ih =>
      intro i a hi ha hl
      rw [List.range'_succ, List.foldl_cons]
      refine ih (i + 1) _ (by omega) ?_ ?_
      · cases c i
        · exact ha
        · intro x hx
          rw [cond_true, List.mem_append] at hx
          rcases hx with hx | hx
          · exact ha x hx
          · rw [List.mem_singleton] at hx; subst hx; exact h.2 _ (gt_mem (by omega))
      · cases c i
        · show a.length ≤ i + 1; omega
        · simp; omega
  obtain ⟨h1, h2⟩ := key x0.length 0 [] (by omega) (fun x hx => by cases hx) (by simp)
  exact ⟨Nat.le_trans h2 h.1, h1⟩
/-! ### A loop over a row, with a state that turns, or an early end -/
def stepAll {σ τ : Type} (g : σ → τ → Option σ) : σ → List τ → Option σ
  | s, [] => some s
  | s, r :: rs => match g s r with
    | none => none
    | some t => stepAll g t rs
theorem Evt.steps {σ τ β : Type} [Inhabited τ] {L : Nat → σ → Int → Option (β ⊕ σ)} (rs : List τ) (hn : rs.length ≤ 9223372036854775807) (I : σ → Prop) (g : σ → τ → Option σ) (bad : β)
    (step : ∀ i, i < rs.length → ∀ s, I s → ∀ o, (∀ t, g s (gt rs (i : Int)) = some t → Evt (fun k => L k t (wrap64 ((i : Int) + 1))) o) → (g s (gt rs (i : Int)) = none → o = .inl bad) → Evt (fun k => L (k + 1) s (i : Int)) o)
    (pres : ∀ s r t, I s → g s r = some t → I t) (done : ∀ s, Evt (fun k => L (k + 1) s (rs.length : Int)) (.inr s)) (s : σ) (hs : I s) :
    Evt (fun k => L k s 0) (match stepAll g s rs with | some t => .inr t | none => .inl bad) := by
  have key : ∀ d i s, i + d = rs.length → I s → Evt (fun k => L k s (i : Int)) (match stepAll g s (rs.drop i) with | some t => .inr t | none => .inl bad) := by
    intro d
    induction d with
    | zero =>
      intro i s hi hs
      rw [List.drop_of_length_le (by omega)]
      have e : i = rs.length := by omega
      subst e
      exact Evt.s (done s)
    | succ d ih =>
      intro i s hi hs
      have hlt : i < rs.length := by omega
      rw [List.drop_eq_getElem_cons hlt]
      have hg : gt rs (i : Int) = rs[i] := gt_eq (by simpa using hlt)
      refine Evt.s (step i hlt s hs _ (fun t ht => ?_) (fun ht => ?_))
      · rw [hg] at ht
        rw [w64 hlt hn]
        have := ih (i + 1) t (by omega) (pres _ _ _ hs ht)
        simp only [stepAll, ht]
        exact this
      · rw [hg] at ht
        simp only [stepAll, ht]
  exact key rs.length 0 s (by omega) hs
theorem stepAll_pres {σ τ : Type} {g : σ → τ → Option σ} {I : σ → Prop} (pres : ∀ s r t, I s → g s r = some t → I t) : ∀ (rs : List τ) (s t : σ), I s → stepAll g s rs = some t → I t
  | [], s, t, hs, h => by cases h; exact hs
  | r :: rs, s, t, hs, h => by
    simp only [stepAll] at h
    cases hg : g s r with
    | none => rw [hg] at h; cases h
    | some u => rw [hg] at h; exact stepAll_pres pres rs u t (pres _ _ _ hs hg) h
theorem stepAll_same {σ τ : Type} {g g' : σ → τ → Option σ} {I : σ → Prop} (pres : ∀ s r t, I s → g s r = some t → I t) (same : ∀ s r, I s → g s r = g' s r) : ∀ (rs : List τ) (s : σ), I s → stepAll g s rs = stepAll g' s rs
  | [], s, _ => rfl
  | r :: rs, s, hs => by
    simp only [stepAll]
    rw [← same s r hs]
    cases hg : g s r with
    | none => rfl
    | some u => exact stepAll_same pres same rs u (pres _ _ _ hs hg)
theorem Lm_sub {α : Type} {sm : α → Prop} {xs ys : List α} (h : Lm sm xs) (s : ys.Sublist xs) : Lm sm ys := ⟨Nat.le_trans s.length_le h.1, fun x hx => h.2 x (s.subset hx)⟩
theorem cut_sub {α : Type} (xs : List α) {a b : Nat} (h : a ≤ b) : (xs.take a ++ xs.drop b).Sublist xs := by
  have h1 : (xs.take a ++ xs.drop b).Sublist (xs.take a ++ xs.drop a) := List.Sublist.append (.refl _) (by
    have e : xs.drop b = (xs.drop a).drop (b - a) := by rw [List.drop_drop]; congr 1; omega
    rw [e]; exact List.drop_sublist _ _)
  rw [List.take_append_drop] at h1
  exact h1
theorem fs_all {β : Type} {p : Nat → Option β} {n : Nat} (h : (List.range' 0 (n - 0)).findSome? p = none) : ∀ i, i < n → p i = none := by
  intro i hi
  rw [List.findSome?_eq_none_iff] at h
  exact h i (by rw [List.mem_range']; exact ⟨i, by omega, by omega⟩)
theorem onO_zero {l : List Nat} {p : Nat → Option Int} {c : Int} (h : onO (l.findSome? p) (fun r => r) c = 0) (hp : ∀ i, p i ≠ some 0) : l.findSome? p = none ∧ c = 0 := by
  cases hf : l.findSome? p with
  | none => rw [hf] at h; exact ⟨rfl, h⟩
  | some r =>
    rw [hf] at h
    obtain ⟨i, _, hi⟩ := List.exists_of_findSome?_eq_some hf
    have : r = 0 := h
    subst this
    exact absurd hi (hp i)
/-! ### A loop over a row, as a fold over it -/
theorem range_foldl {α β : Type} [Inhabited α] (xs : List α) (f : β → α → β) (a : β) : (List.range' 0 (xs.length - 0)).foldl (fun ac (i : Nat) => f ac (gt xs (i : Int))) a = xs.foldl f a := by
  have key : ∀ d i a, i + d = xs.length → (List.range' i d).foldl (fun ac (i : Nat) => f ac (gt xs (i : Int))) a = (xs.drop i).foldl f a := by
    intro d
    induction d with
    | zero => intro i a h; rw [List.drop_eq_nil_of_le (by omega)]; rfl
    | succ d ih =>
      intro i a h
      have hi : i < xs.length := by omega
      rw [List.range'_succ, List.foldl_cons, ih (i + 1) _ (by omega), List.drop_eq_getElem_cons hi, List.foldl_cons, gt_eq (by simpa using hi)]
      simp
  simpa using key xs.length 0 a (by omega)
theorem fold_if {α β : Type} (c : α → Bool) (g : β → α → β) : ∀ (xs : List α) (ys : List α) (b : β), (xs.foldl (fun ac x => bif c x then ac ++ [x] else ac) ys).foldl g b = xs.foldl (fun n x => bif c x then g n x else n) (ys.foldl g b)
  | [], ys, b => rfl
  | x :: xs, ys, b => by
    rw [List.foldl_cons, List.foldl_cons, fold_if c g xs]
    cases c x
    · rfl
    · rw [cond_true, cond_true, List.foldl_append]; rfl
theorem fold_map {α β : Type} (g : α → β) : ∀ (xs : List α) (ys : List β), xs.foldl (fun ac x => ac ++ [g x]) ys = ys ++ xs.map g
  | [], ys => by simp
  | x :: xs, ys => by rw [List.foldl_cons, fold_map g xs]; simp
/-! ### Digits -/
def mkB (l : List UInt8) : ByteArray := ⟨l.toArray⟩
theorem mkB_append (a b : List UInt8) : mkB a ++ mkB b = mkB (a ++ b) := by
  apply ByteArray.ext
  simp [mkB]
theorem mkB_size (l : List UInt8) : (mkB l).size = l.length := by simp [mkB, ByteArray.size]
def dgL (n : Int) : List UInt8 := Lib.decDigits n.toNat
theorem dgL_len (n : Int) : ∀ u : Nat, n.toNat = u → (dgL n).length ≤ u + 1 := by
  have key : ∀ u : Nat, (Lib.decDigits u).length ≤ u + 1 := by
    intro u
    induction u using Nat.strongRecOn with
    | _ u ih =>
      rw [Lib.decDigits]
      by_cases h : u < 10
      · rw [dif_pos h]; simp
      · rw [dif_neg h, List.length_append]
        have := ih (u / 10) (by omega)
        simp; omega
  intro u hu
  subst hu
  exact key _
theorem str1 (n : Int) (h0 : 0 ≤ n) (h1 : n ≤ 200) : strOfNums ([n] : List Int) = mkB [UInt8.ofNat n.toNat] := rfl
theorem itoa_dg (n : Int) (h0 : 0 ≤ n) : (⟨(Lib.itoa n).toArray⟩ : ByteArray) = mkB (dgL n) := by
  unfold Lib.itoa
  rw [if_neg (by omega)]; rfl
theorem leB_mk {a b : Nat} (h : a + b ≤ 1000000) : leB (a + b) 9223372036854775807 = true := decide_eq_true (by omega)
theorem dg3 (n : Int) (h0 : 0 ≤ n) (h1 : n ≤ 999) : (dgL n).length ≤ 1000 := by
  have := dgL_len n n.toNat rfl
  omega
theorem join3 (xs : List Int) (h1 : 1 ≤ xs.length) (h3 : xs.length ≤ 3) (hk : ∀ x ∈ xs, 1 ≤ x ∧ x ≤ 999) : (Lib.join (xs.map dgL) [44]).length ≤ 3100 := by
  have hd : ∀ x ∈ xs, (dgL x).length ≤ 1000 := fun x hx => dg3 x (by have := hk x hx; omega) (hk x hx).2
  match xs, h1, h3, hd with
  | [a], _, _, hd => have := hd a (by simp); simp [Lib.join_cons, Lib.joinTail]; omega
  | [a, b], _, _, hd => have := hd a (by simp); have := hd b (by simp); simp [Lib.join_cons, Lib.joinTail]; omega
  | [a, b, c], _, _, hd => have := hd a (by simp); have := hd b (by simp); have := hd c (by simp); simp [Lib.join_cons, Lib.joinTail]; omega
  | [], h, _, _ => simp at h
  | _ :: _ :: _ :: _ :: _, _, h, _ => simp at h
theorem lens_le (m : Nat) : ∀ xs : List (List UInt8), (∀ x ∈ xs, x.length ≤ m) → Lib.lens xs ≤ m * xs.length
  | [], _ => by simp [Lib.lens]
  | x :: r, h => by
    have h1 := h x (by simp)
    have h2 := lens_le m r (fun y hy => h y (by simp [hy]))
    have e : m * (r.length + 1) = m * r.length + m := Nat.mul_succ ..
    have e2 : Lib.lens (x :: r) = x.length + Lib.lens r := by simp [Lib.lens]
    rw [e2, List.length_cons, e]; omega
theorem join_le {m n : Nat} {xs : List (List UInt8)} {sep : List UInt8} (h : ∀ x ∈ xs, x.length ≤ m) (hn : xs.length ≤ n) : (Lib.join xs sep).length ≤ m * n + sep.length * n := by
  cases xs with
  | nil => simp [Lib.join_nil]
  | cons x r =>
    have h1 := lens_le m (x :: r) h
    rw [List.length_cons] at h1 hn
    have a : m * (r.length + 1) ≤ m * n := Nat.mul_le_mul_left _ hn
    have b : sep.length * r.length ≤ sep.length * n := Nat.mul_le_mul_left _ (by omega)
    rw [Lib.join_length]; omega
theorem mkL (l : List UInt8) : (⟨l.toArray⟩ : ByteArray) = mkB l := rfl
theorem leB_mk2 {a b : Nat} (h : a ≤ b) : leB a b = true := decide_eq_true h
/-! ### Numbers in a text -/
def isDg (b : UInt8) : Prop := 48 ≤ b.toNat ∧ b.toNat ≤ 57
def valL (l : List UInt8) : Nat := l.foldl (fun v b => v * 10 + (b.toNat - 48)) 0
theorem valL_snoc (l : List UInt8) (b : UInt8) : valL (l ++ [b]) = valL l * 10 + (b.toNat - 48) := by simp [valL]
theorem foldl_pos : ∀ (l : List UInt8) (v : Nat), 1 ≤ v → 1 ≤ l.foldl (fun v b => v * 10 + (b.toNat - 48)) v
  | [], v, h => h
  | b :: l, v, h => foldl_pos l (v * 10 + (b.toNat - 48)) (by omega)
theorem dec_val : ∀ (n : Nat) (l : List UInt8), l.length = n → 1 ≤ n → (∀ b ∈ l, isDg b) → (1 < n → l.head? ≠ some 48) → Lib.decDigits (valL l) = l
  | 0, l, _, h, _, _ => by omega
  | n + 1, l, hl, _, hd, hz => by
    rcases List.eq_nil_or_concat l with rfl | ⟨l', b, rfl⟩
    · simp at hl
    · rw [List.concat_eq_append] at *
      have hb : isDg b := hd b (by simp)
      rw [valL_snoc]
      have hl' : l'.length = n := by simpa using hl
      cases n with
      | zero =>
        have : l' = [] := List.length_eq_zero_iff.1 hl'
        subst this
        have e : valL [] * 10 + (b.toNat - 48) = b.toNat - 48 := by simp [valL]
        rw [e, Lib.decDigits_one (by have := hb; unfold isDg at this; omega)]
        have e2 : 48 + (b.toNat - 48) = b.toNat := by have := hb.1; omega
        rw [e2, UInt8.ofNat_toNat]; rfl
      | succ n =>
        cases l' with
        | nil => simp at hl'
        | cons a l'' =>
          have ha : isDg a := hd a (by simp)
          have hz' : a ≠ 48 := by have := hz (by omega); simpa using this
          have ih := dec_val (n + 1) (a :: l'') hl' (by omega) (fun x hx => hd x (by simp at hx ⊢; rcases hx with h | h <;> simp [h])) (fun _ => by simpa using hz')
          have hv : 1 ≤ valL (a :: l'') := by
            unfold valL
            rw [List.foldl_cons]
            refine foldl_pos _ _ ?_
            have h1 := ha.1
            have h2 : a.toNat ≠ 48 := fun e => hz' (by have := UInt8.ofNat_toNat (x := a); rw [e] at this; exact this.symm)
            omega
          have h1 : ¬ valL (a :: l'') * 10 + (b.toNat - 48) < 10 := by omega
          rw [Lib.decDigits, dif_neg h1]
          have hb2 : b.toNat - 48 < 10 := by have := hb; unfold isDg at this; omega
          have e1 : (valL (a :: l'') * 10 + (b.toNat - 48)) / 10 = valL (a :: l'') := by omega
          have e2 : (valL (a :: l'') * 10 + (b.toNat - 48)) % 10 = b.toNat - 48 := by omega
          have e3 : 48 + (b.toNat - 48) = b.toNat := by have := hb.1; omega
          rw [e1, e2, ih, e3, UInt8.ofNat_toNat]
theorem u8dig {d : Nat} (h : d < 10) : (UInt8.ofNat (48 + d)).toNat = 48 + d := by
  rw [UInt8.toNat_ofNat']; omega
theorem dec_is (u : Nat) : (∀ b ∈ Lib.decDigits u, isDg b) ∧ valL (Lib.decDigits u) = u ∧ 1 ≤ (Lib.decDigits u).length ∧ (1 < (Lib.decDigits u).length → (Lib.decDigits u).head? ≠ some 48) ∧ (1 ≤ u → (Lib.decDigits u).head? ≠ some 48) := by
  induction u using Nat.strongRecOn with
  | _ u ih =>
    by_cases h : u < 10
    · rw [Lib.decDigits_one h]
      refine ⟨?_, ?_, by simp, by simp, ?_⟩
      · intro b hb
        simp only [List.mem_cons, List.not_mem_nil, or_false] at hb
        subst hb
        unfold isDg; rw [u8dig h]; omega
      · simp only [valL, List.foldl_cons, List.foldl_nil]; rw [u8dig h]; omega
      · intro hu e
        simp only [List.head?_cons, Option.some.injEq] at e
        have := congrArg UInt8.toNat e
        rw [u8dig h] at this
        have h48 : (48 : UInt8).toNat = 48 := rfl
        omega
    · obtain ⟨i1, i2, i3, i4, i5⟩ := ih (u / 10) (by omega)
      rw [Lib.decDigits.eq_1 u, dif_neg h]
      have hd : u % 10 < 10 := by omega
      have hh : (Lib.decDigits (u / 10) ++ [UInt8.ofNat (48 + u % 10)]).head? = (Lib.decDigits (u / 10)).head? := by
        cases hc : Lib.decDigits (u / 10) with
        | nil => rw [hc] at i3; simp at i3
        | cons x r => rfl
      refine ⟨?_, ?_, by simp, fun _ => ?_, fun _ => ?_⟩
      · intro b hb
        rcases List.mem_append.1 hb with hb | hb
        · exact i1 b hb
        · simp only [List.mem_cons, List.not_mem_nil, or_false] at hb
          subst hb
          unfold isDg; rw [u8dig hd]; omega
      · rw [valL_snoc, i2, u8dig hd]; omega
      · rw [hh]; exact i5 (by omega)
      · rw [hh]; exact i5 (by omega)
theorem dec_short {u : Nat} : (u < 10 → (Lib.decDigits u).length = 1) ∧ (u < 100 → (Lib.decDigits u).length ≤ 2) ∧ (u < 1000 → (Lib.decDigits u).length ≤ 3) := by
  have k1 : ∀ u, u < 10 → (Lib.decDigits u).length = 1 := fun u h => by rw [Lib.decDigits_one h]; rfl
  have k2 : ∀ u, u < 100 → (Lib.decDigits u).length ≤ 2 := fun u h => by
    by_cases c : u < 10
    · rw [k1 u c]; omega
    · rw [Lib.decDigits, dif_neg c, List.length_append, k1 (u / 10) (by omega)]; simp
  refine ⟨k1 u, k2 u, fun h => ?_⟩
  by_cases c : u < 10
  · rw [k1 u c]; omega
  · rw [Lib.decDigits, dif_neg c, List.length_append]
    have := k2 (u / 10) (by omega)
    simp; omega
theorem valL_lt : ∀ (l : List UInt8), (∀ b ∈ l, isDg b) → valL l < 10 ^ l.length := by
  intro l
  induction h : l.length generalizing l with
  | zero => have : l = [] := List.length_eq_zero_iff.1 h; subst this; intro _; simp [valL]
  | succ n ih =>
    intro hd
    rcases List.eq_nil_or_concat l with rfl | ⟨l', b, rfl⟩
    · simp at h
    · rw [List.concat_eq_append] at *
      have hb : isDg b := hd b (by simp)
      have hl' : l'.length = n := by simpa using h
      have := ih l' hl' (fun x hx => hd x (by simp [hx]))
      rw [valL_snoc, Nat.pow_succ]
      have := hb.2
      omega
instance : DecidablePred isDg := fun b => inferInstanceAs (Decidable (48 ≤ b.toNat ∧ b.toNat ≤ 57))
theorem isDg_ne {b c : UInt8} (h : isDg b) (hc : ¬ isDg c) : b ≠ c := fun e => hc (e ▸ h)
theorem dg_no {c : UInt8} (hc : ¬ isDg c) (n : Int) : c ∉ dgL n := fun h => hc ((dec_is n.toNat).1 c h)
theorem dg_pos (n : Int) : 1 ≤ (dgL n).length := (dec_is n.toNat).2.2.1
theorem dg_l2 {n : Int} (h : n ≤ 99) : (dgL n).length ≤ 2 := dec_short.2.1 (by omega)
theorem dg_l1 {n : Int} (h : n ≤ 9) : (dgL n).length ≤ 1 := by have := (dec_short (u := n.toNat)).1 (by omega); unfold dgL; omega
theorem dg_l3 {n : Int} (h : n ≤ 999) : (dgL n).length ≤ 3 := dec_short.2.2 (by omega)
theorem join5 (a b c d e : List UInt8) (s : List UInt8) : Lib.join [a, b, c, d, e] s = a ++ s ++ b ++ s ++ c ++ s ++ d ++ s ++ e := by
  simp [Lib.join_cons, Lib.joinTail, List.append_assoc]
theorem join3' (a b c : List UInt8) (s : List UInt8) : Lib.join [a, b, c] s = a ++ s ++ b ++ s ++ c := by
  simp [Lib.join_cons, Lib.joinTail, List.append_assoc]
theorem mem_join {b : UInt8} {sep : List UInt8} : ∀ {ps : List (List UInt8)}, b ∈ Lib.join ps sep → b ∈ sep ∨ ∃ p ∈ ps, b ∈ p
  | [], h => by simp [Lib.join_nil] at h
  | x :: r, h => by
    rw [Lib.join_cons] at h
    rcases List.mem_append.1 h with h | h
    · exact .inr ⟨x, by simp, h⟩
    · unfold Lib.joinTail at h
      rw [List.mem_flatten] at h
      obtain ⟨q, hq, hb⟩ := h
      obtain ⟨p, hp, rfl⟩ := List.mem_map.1 hq
      rcases List.mem_append.1 hb with hb | hb
      · exact .inl hb
      · exact .inr ⟨p, by simp [hp], hb⟩
theorem nodg {c : UInt8} (h : c = 32 ∨ c = 43 ∨ c = 44 ∨ c = 45 ∨ c = 58 ∨ c = 61 ∨ c = 95 := by decide) : ¬ isDg c := by
  rcases h with rfl | rfl | rfl | rfl | rfl | rfl | rfl <;> decide
theorem dec_len : ∀ (k u : Nat), u < 10 ^ (k + 1) → (Lib.decDigits u).length ≤ k + 1
  | 0, u, h => by rw [Lib.decDigits_one (by simpa using h)]; simp
  | k + 1, u, h => by
    by_cases c : u < 10
    · rw [Lib.decDigits_one c]; simp
    · have e : 10 ^ (k + 1 + 1) = 10 ^ (k + 1) * 10 := Nat.pow_succ ..
      rw [e] at h
      have ih := dec_len k (u / 10) (by omega)
      rw [Lib.decDigits, dif_neg c, List.length_append]
      simp; omega
theorem dg_l7 {n : Int} (h : n ≤ 9999999) : (dgL n).length ≤ 7 := dec_len 6 _ (by show n.toNat < 10000000; omega)
theorem szRefS_ev (x : List Ref) (o : (Lok okRef) x) (l : Int) (h0 : 0 ≤ l) (h1 : l ≤ 1048576) : ∃ t, Evt (fun k => laws_szRefS.f k x l) t ∧ t ≤ l ∧ (0 ≤ t → (Lm smRef) x) := by
  have hn := o.1
  exact ⟨szL x.length l, Evt.if_ (Evt.self _) (Evt.self _), szL_le h0 h1 hn, fun h => ⟨by have := szL_ok (n := x.length) (l := l) (by simpa using h) h0 h1 hn; omega, by simp⟩⟩
theorem szInt64S_ev (x : List Int) (o : (Lok (iOk .i64)) x) (l : Int) (h0 : 0 ≤ l) (h1 : l ≤ 1048576) : ∃ t, Evt (fun k => laws_szInt64S.f k x l) t ∧ t ≤ l ∧ (0 ≤ t → (Lm tr) x) := by
  have hn := o.1
  exact ⟨szL x.length l, Evt.if_ (Evt.self _) (Evt.self _), szL_le h0 h1 hn, fun h => ⟨by have := szL_ok (n := x.length) (l := l) (by simpa using h) h0 h1 hn; omega, by simp⟩⟩
theorem szRule_ev (x : Rule) (o : okRule x) (l : Int) (h0 : 0 ≤ l) (h1 : l ≤ 1048576) : ∃ t, Evt (fun k => laws_szRule.f k x l) t ∧ t ≤ l ∧ (0 ≤ t → smRule x) := by
  obtain ⟨t0, e0, l0, s0⟩ := szInt64S_ev x.fKeys o.1 l (by omega) (by omega)
  by_cases c0 : t0 < 0
  · exact ⟨-1, Evt.bind e0 (Evt.t (by simpa using c0) (Evt.self _)), by omega, fun h => by omega⟩
  exact ⟨t0, Evt.bind e0 (Evt.f (by simpa using c0) (Evt.self _)), by omega, fun _ => ⟨s0 (by omega), (by repeat' (first | trivial | constructor)), (by repeat' (first | trivial | constructor))⟩⟩
theorem szOut_ev (x : Out) (o : okOut x) (l : Int) (h0 : 0 ≤ l) (h1 : l ≤ 1048576) : ∃ t, Evt (fun k => laws_szOut.f k x l) t ∧ t ≤ l ∧ (0 ≤ t → smOut x) := by
  obtain ⟨t0, e0, l0, s0⟩ := szRule_ev x.fRule o.2 l (by omega) (by omega)
  by_cases c0 : t0 < 0
  · exact ⟨-1, Evt.bind e0 (Evt.t (by simpa using c0) (Evt.self _)), by omega, fun h => by omega⟩
  exact ⟨t0, Evt.bind e0 (Evt.f (by simpa using c0) (Evt.self _)), by omega, fun _ => ⟨(by repeat' (first | trivial | constructor)), s0 (by omega)⟩⟩
theorem szOutS_ev (x : List Out) (o : (Lok okOut) x) (l : Int) (h0 : 0 ≤ l) (h1 : l ≤ 1048576) : ∃ t, Evt (fun k => laws_szOutS.f k x l) t ∧ t ≤ l ∧ (0 ≤ t → (Lm smOut) x) := by
  have hn := o.1
  have hn' : x.length ≤ 9223372036854775807 := by simpa [maxLen] using hn
  by_cases c : decide (szL x.length l < 0) = true
  · refine ⟨-1, (Evt.t (f := fun _ => some (-1)) ?_ (Evt.self _)), by omega, fun h => by omega⟩
    have e : wrap64 (l - (x.length : Int)) = l - (x.length : Int) := by unfold wrap64; omega
    rw [e]
    by_cases c2 : l - (x.length : Int) < 0
    · exact decide_eq_true c2
    · unfold szL at c; rw [e, decide_eq_false c2] at c; simp at c; omega
  have c' : decide (szL x.length l < 0) = false := by simpa using c
  obtain ⟨h2, h3⟩ := szL_ok c' h0 h1 hn
  have e : wrap64 (l - (x.length : Int)) = l - (x.length : Int) := by unfold wrap64; omega
  obtain ⟨r, hr, hr2⟩ := Evt.szl (L := fun k left i => laws_szOutS.l0 x k left i) (sm := smOut) x hn' (fun i hi left a0 a1 => by
    obtain ⟨t, e1, e2, e3⟩ := szOut_ev (gt x (i : Int)) (o.2 _ (gt_mem hi)) left a0 a1
    refine ⟨t, e2, e3, fun c => ?_, fun o c ho => ?_⟩
    · refine Evt.s ?_
      simp only [laws_szOutS.l0_s]
      exact Evt.t (int_lt hi) (Evt.chk (idx_ok hi) (Evt.bind e1 (Evt.t (by simpa using c) (Evt.self _))))
    · refine Evt.s ?_
      simp only [laws_szOutS.l0_s]
      exact Evt.t (int_lt hi) (Evt.chk (idx_ok hi) (Evt.bind e1 (Evt.f (by simpa using c) ho)))) (fun left => by
    refine Evt.s ?_
    simp only [laws_szOutS.l0_s]
    exact Evt.f int_nlt (Evt.self _)) (l - (x.length : Int)) (by omega) (by omega)
  refine ⟨onw r id id, Evt.f (by rw [e]; simpa using h2) (Evt.thn (r' := id) (g' := id) (by rw [e]; exact hr) (fun _ => rfl) (fun y _ => Evt.self y)), ?_, ?_⟩
  · cases r with
    | inl r => have h5 : r = -1 := hr2; subst h5; show (-1 : Int) ≤ l; omega
    | inr t => have h5 : 0 ≤ t ∧ t ≤ l - (x.length : Int) ∧ _ := hr2; show t ≤ l; omega
  · intro h
    cases r with
    | inl r => have h5 : r = -1 := hr2; subst h5; simp [onw] at h
    | inr t => have h5 : 0 ≤ t ∧ t ≤ l - (x.length : Int) ∧ _ := hr2; exact ⟨by omega, h5.2.2⟩
theorem szTx_ev (x : Tx) (o : okTx x) (l : Int) (h0 : 0 ≤ l) (h1 : l ≤ 1048576) : ∃ t, Evt (fun k => laws_szTx.f k x l) t ∧ t ≤ l ∧ (0 ≤ t → smTx x) := by
  obtain ⟨t0, e0, l0, s0⟩ := szRefS_ev x.fIns o.2.2.1 l (by omega) (by omega)
  by_cases c0 : t0 < 0
  · exact ⟨-1, Evt.bind e0 (Evt.t (by simpa using c0) (Evt.self _)), by omega, fun h => by omega⟩
  obtain ⟨t1, e1, l1, s1⟩ := szOutS_ev x.fOuts o.2.2.2 t0 (by omega) (by omega)
  by_cases c1 : t1 < 0
  · exact ⟨-1, Evt.bind e0 (Evt.f (by simpa using c0) (Evt.bind e1 (Evt.t (by simpa using c1) (Evt.self _)))), by omega, fun h => by omega⟩
  exact ⟨t1, Evt.bind e0 (Evt.f (by simpa using c0) (Evt.bind e1 (Evt.f (by simpa using c1) (Evt.self _)))), by omega, fun _ => ⟨(by repeat' (first | trivial | constructor)), (by repeat' (first | trivial | constructor)), s0 (by omega), s1 (by omega)⟩⟩
theorem toRef_ev (x : Ref) (h : smRef x) : Evt (fun k => laws_toRef.f k x) x := Evt.self _
theorem toRefS_ev (x : List Ref) (h : (Lm smRef) x) : Evt (fun k => laws_toRefS.f k x) x := by
  have hn := h.1
  refine Evt.chk (by simp) (Evt.chk (by simp [leB]; omega) (Evt.bind (a := x) ?_ (Evt.self _)))
  have := Evt.copy (L := fun k acc i => laws_toRefS.l0 x k acc i) x id (by omega) (fun acc i hl hi r hr => ?_) (fun acc => ?_) (List.replicate ((x.length : Int)).toNat (⟨0, 0⟩ : Ref)) (by simp)
  · simpa using this
  · refine Evt.s ?_
    simp only [laws_toRefS.l0_s]
    refine Evt.t (int_lt hi) (Evt.chk (idx_ok hi) (Evt.bind (toRef_ev _ (h.2 _ (gt_mem hi))) (Evt.chk (idx_ok (hl ▸ hi)) ?_)))
    simpa using hr
  · refine Evt.s ?_
    simp only [laws_toRefS.l0_s]
    exact Evt.f int_nlt (Evt.self _)
theorem toInt64S_ev (x : List Int) (h : (Lm tr) x) : Evt (fun k => laws_toInt64S.f k x) x := by
  have hn := h.1
  refine Evt.chk (by simp) (Evt.chk (by simp [leB]; omega) (Evt.bind (a := x) ?_ (Evt.self _)))
  have := Evt.copy (L := fun k acc i => laws_toInt64S.l0 x k acc i) x id (by omega) (fun acc i hl hi r hr => ?_) (fun acc => ?_) (List.replicate ((x.length : Int)).toNat 0) (by simp)
  · simpa using this
  · refine Evt.s ?_
    simp only [laws_toInt64S.l0_s]
    refine Evt.t (int_lt hi) (Evt.chk (idx_ok hi) (Evt.chk (idx_ok (hl ▸ hi)) ?_))
    simpa using hr
  · refine Evt.s ?_
    simp only [laws_toInt64S.l0_s]
    exact Evt.f int_nlt (Evt.self _)
theorem toRule_ev (x : Rule) (h : smRule x) : Evt (fun k => laws_toRule.f k x) x := Evt.bind (toInt64S_ev _ h.1) (Evt.self _)
theorem toOut_ev (x : Out) (h : smOut x) : Evt (fun k => laws_toOut.f k x) x := Evt.bind (toRule_ev _ h.2) (Evt.self _)
theorem toOutS_ev (x : List Out) (h : (Lm smOut) x) : Evt (fun k => laws_toOutS.f k x) x := by
  have hn := h.1
  refine Evt.chk (by simp) (Evt.chk (by simp [leB]; omega) (Evt.bind (a := x) ?_ (Evt.self _)))
  have := Evt.copy (L := fun k acc i => laws_toOutS.l0 x k acc i) x id (by omega) (fun acc i hl hi r hr => ?_) (fun acc => ?_) (List.replicate ((x.length : Int)).toNat (⟨0, (⟨[], 0, 0⟩ : Rule)⟩ : Out)) (by simp)
  · simpa using this
  · refine Evt.s ?_
    simp only [laws_toOutS.l0_s]
    refine Evt.t (int_lt hi) (Evt.chk (idx_ok hi) (Evt.bind (toOut_ev _ (h.2 _ (gt_mem hi))) (Evt.chk (idx_ok (hl ▸ hi)) ?_)))
    simpa using hr
  · refine Evt.s ?_
    simp only [laws_toOutS.l0_s]
    exact Evt.f int_nlt (Evt.self _)
theorem toTx_ev (x : Tx) (h : smTx x) : Evt (fun k => laws_toTx.f k x) x := Evt.bind (toRefS_ev _ h.2.2.1) (Evt.bind (toOutS_ev _ h.2.2.2) (Evt.self _))
def spec_l1In_v (x0 : Int) (x1 : Int) (x2 : Int) : Bool := ((decide (x1 ≤ x0)) && (decide (x0 ≤ x2)))
theorem spec_l1In_ev (x0 : Int) (x1 : Int) (x2 : Int)  : Evt (fun k => spec_l1In.f k x0 x1 x2) (spec_l1In_v x0 x1 x2) :=
  (Evt.self _)
def spec_l1Key_v (x0 : Int) : Bool := (spec_l1In_v x0 1 999)
theorem spec_l1Key_ev (x0 : Int)  : Evt (fun k => spec_l1Key.f k x0) (spec_l1Key_v x0) :=
  (Evt.bind (spec_l1In_ev x0 1 999) (Evt.self _))
def spec_l3Ref_v (x0 : Ref) : Bool := ((spec_l1In_v x0.fTx 1 60) && (bif (spec_l1In_v x0.fTx 1 60) then (spec_l1In_v x0.fAt 0 3) else default))
theorem spec_l3Ref_ev (x0 : Ref)  : Evt (fun k => spec_l3Ref.f k x0) (spec_l3Ref_v x0) :=
  (Evt.bind (spec_l1In_ev x0.fTx 1 60) (Evt.bind (Evt.ifh (fun _ => (spec_l1In_ev x0.fAt 0 3)) (fun _ => Evt.self _)) (Evt.self _)))
def spec_l3Among_v (x0 : List Ref) (x1 : Ref) : Bool := (onO ((List.range' 0 (x0.length - 0)).findSome? (fun (i0 : Nat) => (bif ((((gt x0 (i0 : Int)).fTx) == x1.fTx) && (((gt x0 (i0 : Int)).fAt) == x1.fAt)) then (some true) else none))) (fun r => r) false)
theorem spec_l3Among_ev (x0 : List Ref) (x1 : Ref) (h_x0 : (Lm smRef) x0) : Evt (fun k => spec_l3Among.f k x0 x1) (spec_l3Among_v x0 x1) :=
  (Evt.loop (r' := fun r => r) (Evt.srch (L := (fun k i => spec_l3Among.l0 x0 x1 k i)) 0 x0.length (by have := h_x0; first | (have := this.1; omega) | omega) (fun (i0 : Nat) => (bif ((((gt x0 (i0 : Int)).fTx) == x1.fTx) && (((gt x0 (i0 : Int)).fAt) == x1.fAt)) then (some true) else none)) (fun i0 hs2 hi2 => by
  have hbn : x0.length ≤ 9223372036854775807 := (by have := h_x0; first | (have := this.1; omega) | omega)
  simp only [spec_l3Among.l0_s]
  exact Evt_t2 (int_lt hi2) (StE.chk (by first | exact idx_ok (by omega) | exact idx_ok (by have hq := len_eq (by assumption); omega) | exact idx_found (show (0 : Int) ≤ (i0 : Int) by simp_all) | exact cut_ok (by omega) | exact or_ok (idx_ok (by omega)) | (refine or1 (fun hz => pre_ok (by simp at hz; omega) (by omega) (by omega))) | exact pre_ok (by omega) (by omega) (by omega) | (simp_all [idxOk, cutOk, leB]; done) | (simp_all [idxOk, cutOk, leB]; omega) | (simp [idxOk, cutOk, leB] at *; omega) | (have hf0 := h_x0.1; simp only [leB, decide_eq_true_eq, List.length_append, List.length_cons, List.length_nil]; omega)) (StE.ifh (fun hc1 => (StE.ret _)) (fun hc1 => StE.next)))) (fun j hj => by
  simp only [spec_l3Among.l0_s]
  exact Evt.f (ge_lt hj) (Evt.self _))) (fun _ => rfl) (Evt.self _))
def spec_l2Height_v (x0 : Int) : Bool := (spec_l1In_v x0 0 999)
theorem spec_l2Height_ev (x0 : Int)  : Evt (fun k => spec_l2Height.f k x0) (spec_l2Height_v x0) :=
  (Evt.bind (spec_l1In_ev x0 0 999) (Evt.self _))
def spec_l2Fault_v (x0 : Rule) : Int := (bif !(spec_l1In_v (x0.fKeys.length : Int) 1 3) then 2 else (onO ((List.range' 0 (x0.fKeys.length - 0)).findSome? (fun (i0 : Nat) => (bif !(spec_l1Key_v (gt x0.fKeys (i0 : Int))) then (some 3) else none))) (fun r => r) (bif ((!(spec_l1In_v x0.fNeed 1 (x0.fKeys.length : Int))) || (!(bif (!(!(spec_l1In_v x0.fNeed 1 (x0.fKeys.length : Int)))) then (spec_l2Height_v x0.fAfter) else default))) then 3 else (onO ((List.range' 1 (x0.fKeys.length - 1)).findSome? (fun (i2 : Nat) => (bif (decide ((gt x0.fKeys (i2 : Int)) ≤ (gt x0.fKeys (wrap64 ((i2 : Int) - 1))))) then (some 1) else none))) (fun r => r) 0))))
theorem spec_l2Fault_ev (x0 : Rule) (h_x0 : smRule x0) : Evt (fun k => spec_l2Fault.f k x0) (spec_l2Fault_v x0) :=
  (Evt.bind (spec_l1In_ev (x0.fKeys.length : Int) 1 3) (Evt.ifh (fun hc5 => (Evt.self _)) (fun hc5 => (Evt.loop (r' := fun r => r) (Evt.srch (L := (fun k i => spec_l2Fault.l0 x0 k i)) 0 x0.fKeys.length (by have := h_x0.1; first | (have := this.1; omega) | omega) (fun (i0 : Nat) => (bif !(spec_l1Key_v (gt x0.fKeys (i0 : Int))) then (some 3) else none)) (fun i0 hs2 hi2 => by
  have hbn : x0.fKeys.length ≤ 9223372036854775807 := (by have := h_x0.1; first | (have := this.1; omega) | omega)
  simp only [spec_l2Fault.l0_s]
  exact Evt_t2 (int_lt hi2) (StE.chk (by first | exact idx_ok (by omega) | exact idx_ok (by have hq := len_eq (by assumption); omega) | exact idx_found (show (0 : Int) ≤ (i0 : Int) by simp_all) | exact cut_ok (by omega) | exact or_ok (idx_ok (by omega)) | (refine or1 (fun hz => pre_ok (by simp at hz; omega) (by omega) (by omega))) | exact pre_ok (by omega) (by omega) (by omega) | (simp_all [idxOk, cutOk, leB]; done) | (simp_all [idxOk, cutOk, leB]; omega) | (simp [idxOk, cutOk, leB] at *; omega) | (have hf0 := h_x0.1.1; simp only [leB, decide_eq_true_eq, List.length_append, List.length_cons, List.length_nil]; omega)) (StE.bind (spec_l1Key_ev (gt x0.fKeys (i0 : Int))) (StE.ifh (fun hc1 => (StE.ret _)) (fun hc1 => StE.next))))) (fun j hj => by
  simp only [spec_l2Fault.l0_s]
  exact Evt.f (ge_lt hj) (Evt.self _))) (fun _ => rfl) (Evt.bind (spec_l1In_ev x0.fNeed 1 (x0.fKeys.length : Int)) (Evt.bind (Evt.ifh (fun _ => (spec_l2Height_ev x0.fAfter)) (fun _ => Evt.self _)) (Evt.ifh (fun hc4 => (Evt.self _)) (fun hc4 => (Evt.loop (r' := fun r => r) (Evt.srch (L := (fun k i => spec_l2Fault.l1 x0 k i)) 1 x0.fKeys.length (by have := h_x0.1; first | (have := this.1; omega) | omega) (fun (i2 : Nat) => (bif (decide ((gt x0.fKeys (i2 : Int)) ≤ (gt x0.fKeys (wrap64 ((i2 : Int) - 1))))) then (some 1) else none)) (fun i2 hs4 hi4 => by
  have hbn : x0.fKeys.length ≤ 9223372036854775807 := (by have := h_x0.1; first | (have := this.1; omega) | omega)
  simp only [spec_l2Fault.l1_s]
  exact Evt_t2 (int_lt hi4) (StE.chk (by first | exact idx_ok (by omega) | exact idx_ok (by have hq := len_eq (by assumption); omega) | exact idx_found (show (0 : Int) ≤ (i2 : Int) by simp_all) | exact cut_ok (by omega) | exact or_ok (idx_ok (by omega)) | (refine or1 (fun hz => pre_ok (by simp at hz; omega) (by omega) (by omega))) | exact pre_ok (by omega) (by omega) (by omega) | (simp_all [idxOk, cutOk, leB]; done) | (simp_all [idxOk, cutOk, leB]; omega) | (simp [idxOk, cutOk, leB] at *; omega) | (have hf0 := h_x0.1.1; simp only [leB, decide_eq_true_eq, List.length_append, List.length_cons, List.length_nil]; omega)) (StE.chk (by first | exact idx_ok (by omega) | exact idx_ok (by have hq := len_eq (by assumption); omega) | exact idx_found (show (0 : Int) ≤ (wrap64 ((i2 : Int) - 1)) by simp_all) | exact cut_ok (by omega) | exact or_ok (idx_ok (by omega)) | (refine or1 (fun hz => pre_ok (by simp at hz; omega) (by omega) (by omega))) | exact pre_ok (by omega) (by omega) (by omega) | (simp_all [idxOk, cutOk, leB]; done) | (simp_all [idxOk, cutOk, leB]; omega) | (simp [idxOk, cutOk, leB] at *; omega) | (have hf0 := h_x0.1.1; simp only [leB, decide_eq_true_eq, List.length_append, List.length_cons, List.length_nil]; omega)) (StE.ifh (fun hc3 => (StE.ret _)) (fun hc3 => StE.next))))) (fun j hj => by
  simp only [spec_l2Fault.l1_s]
  exact Evt.f (ge_lt hj) (Evt.self _))) (fun _ => rfl) (Evt.self _))))))))))
/-! ### A rule's text, as bytes -/
def ruleL (r : Rule) (bl : List UInt8) : List UInt8 := dgL r.fNeed ++ bl ++ [111, 102] ++ bl ++ Lib.join (r.fKeys.map dgL) [44] ++ (bif r.fAfter != 0 then bl ++ [97, 102, 116, 101, 114] ++ bl ++ dgL r.fAfter else [])
structure RuleOK (r : Rule) : Prop where
  n1 : 1 ≤ r.fKeys.length
  n3 : r.fKeys.length ≤ 3
  key : ∀ x ∈ r.fKeys, 1 ≤ x ∧ x ≤ 999
  need : 1 ≤ r.fNeed ∧ r.fNeed ≤ 3
  after : 0 ≤ r.fAfter ∧ r.fAfter ≤ 999
theorem rule_ok (x0 : Rule) (h : (spec_l2Fault_v x0 != 0) = false) : RuleOK x0 := by
  have h0 : spec_l2Fault_v x0 = 0 := by simpa using h
  unfold spec_l2Fault_v at h0
  cases ha : spec_l1In_v (x0.fKeys.length : Int) 1 3
  · rw [ha] at h0; exact absurd (show (2 : Int) = 0 from h0) (by decide)
  · rw [ha] at h0
    have h1 : onO ((List.range' 0 (x0.fKeys.length - 0)).findSome? (fun (i0 : Nat) => (bif !(spec_l1Key_v (gt x0.fKeys (i0 : Int))) then (some (3 : Int)) else none))) (fun r => r) (bif ((!(spec_l1In_v x0.fNeed 1 (x0.fKeys.length : Int))) || (!(bif (!(!(spec_l1In_v x0.fNeed 1 (x0.fKeys.length : Int)))) then (spec_l2Height_v x0.fAfter) else default))) then 3 else (onO ((List.range' 1 (x0.fKeys.length - 1)).findSome? (fun (i2 : Nat) => (bif (decide ((gt x0.fKeys (i2 : Int)) ≤ (gt x0.fKeys (wrap64 ((i2 : Int) - 1))))) then (some 1) else none))) (fun r => r) 0)) = 0 := h0
    obtain ⟨h2, h3⟩ := onO_zero h1 (fun i => by cases spec_l1Key_v (gt x0.fKeys (i : Int)) <;> simp)
    have hk := fs_all h2
    simp only [spec_l1In_v, Bool.and_eq_true, decide_eq_true_eq] at ha
    cases hb : spec_l1In_v x0.fNeed 1 (x0.fKeys.length : Int)
    · rw [hb] at h3; exact absurd (show (3 : Int) = 0 from h3) (by decide)
    · cases hc : spec_l2Height_v x0.fAfter
      · rw [hb, hc] at h3; exact absurd (show (3 : Int) = 0 from h3) (by decide)
      · simp only [spec_l2Height_v, spec_l1In_v, Bool.and_eq_true, decide_eq_true_eq] at hb hc
        refine ⟨by omega, by omega, fun x hx => ?_, by omega, hc⟩
        obtain ⟨i, hi, rfl⟩ := List.getElem_of_mem hx
        have h4 := hk i hi
        rw [gt_eq (by simpa using hi)] at h4
        cases h5 : spec_l1Key_v x0.fKeys[i]
        · simp only [Int.toNat_natCast] at h4; rw [h5] at h4; cases h4
        · simp only [spec_l1Key_v, spec_l1In_v, Bool.and_eq_true, decide_eq_true_eq] at h5
          exact h5
theorem ruleL_len (r : Rule) (c : UInt8) (hr : RuleOK r) : (ruleL r [c]).length ≤ 50 := by
  have h1 := dg_l3 (n := r.fNeed) (by have := hr.need; omega)
  have h2 := dg_l3 (n := r.fAfter) (by have := hr.after; omega)
  have hk := join_le (m := 3) (n := 3) (sep := [44]) (xs := r.fKeys.map dgL) (by
    intro x hx
    obtain ⟨y, hy, rfl⟩ := List.mem_map.1 hx
    have := hr.key y hy
    exact dg_l3 (by omega)) (by rw [List.length_map]; exact hr.n3)
  simp only [List.length_cons, List.length_nil] at hk
  unfold ruleL
  cases r.fAfter != 0
  · simp only [cond_false, List.length_append, List.length_cons, List.length_nil]; omega
  · simp only [cond_true, List.length_append, List.length_cons, List.length_nil]; omega
def spec_l3Outs_v (x0 : Tx) : Int := (onO ((List.range' 0 (x0.fOuts.length - 0)).findSome? (fun (i0 : Nat) => (bif !(spec_l1In_v ((gt x0.fOuts (i0 : Int)).fValue) 1 1000000) then (some 3) else (bif ((spec_l2Fault_v ((gt x0.fOuts (i0 : Int)).fRule)) != 0) then (some (spec_l2Fault_v ((gt x0.fOuts (i0 : Int)).fRule))) else none)))) (fun r => r) (bif ((x0.fKind == 1) && (decide (((gt x0.fOuts (0 : Int)).fValue) < 100))) then 8 else 0))
theorem spec_l3Outs_ev (x0 : Tx) (h_x0 : smTx x0) (hpre : 0 < x0.fOuts.length) : Evt (fun k => spec_l3Outs.f k x0) (spec_l3Outs_v x0) :=
  (Evt.loop (r' := fun r => r) (Evt.srch (L := (fun k i => spec_l3Outs.l0 x0 k i)) 0 x0.fOuts.length (by have := h_x0.2.2.2; first | (have := this.1; omega) | omega) (fun (i0 : Nat) => (bif !(spec_l1In_v ((gt x0.fOuts (i0 : Int)).fValue) 1 1000000) then (some 3) else (bif ((spec_l2Fault_v ((gt x0.fOuts (i0 : Int)).fRule)) != 0) then (some (spec_l2Fault_v ((gt x0.fOuts (i0 : Int)).fRule))) else none))) (fun i0 hs3 hi3 => by
  have hbn : x0.fOuts.length ≤ 9223372036854775807 := (by have := h_x0.2.2.2; first | (have := this.1; omega) | omega)
  simp only [spec_l3Outs.l0_s]
  exact Evt_t2 (int_lt hi3) (StE.chk (by first | exact idx_ok (by omega) | exact idx_ok (by have hq := len_eq (by assumption); omega) | exact idx_found (show (0 : Int) ≤ (i0 : Int) by simp_all) | exact cut_ok (by omega) | exact or_ok (idx_ok (by omega)) | (refine or1 (fun hz => pre_ok (by simp at hz; omega) (by omega) (by omega))) | exact pre_ok (by omega) (by omega) (by omega) | (simp_all [idxOk, cutOk, leB]; done) | (simp_all [idxOk, cutOk, leB]; omega) | (simp [idxOk, cutOk, leB] at *; omega) | (simp_all [idxOk]; omega) | (simp [idxOk]; omega) | (have hf0 := h_x0.2.2.1.1; have hf1 := h_x0.2.2.2.1; simp only [leB, decide_eq_true_eq, List.length_append, List.length_cons, List.length_nil]; omega)) (StE.bind (spec_l1In_ev ((gt x0.fOuts (i0 : Int)).fValue) 1 1000000) (StE.ifh (fun hc2 => (StE.ret _)) (fun hc2 => (StE.chk (by first | exact idx_ok (by omega) | exact idx_ok (by have hq := len_eq (by assumption); omega) | exact idx_found (show (0 : Int) ≤ (i0 : Int) by simp_all) | exact cut_ok (by omega) | exact or_ok (idx_ok (by omega)) | (refine or1 (fun hz => pre_ok (by simp at hz; omega) (by omega) (by omega))) | exact pre_ok (by omega) (by omega) (by omega) | (simp_all [idxOk, cutOk, leB]; done) | (simp_all [idxOk, cutOk, leB]; omega) | (simp [idxOk, cutOk, leB] at *; omega) | (simp_all [idxOk]; omega) | (simp [idxOk]; omega) | (have hf0 := h_x0.2.2.1.1; have hf1 := h_x0.2.2.2.1; simp only [leB, decide_eq_true_eq, List.length_append, List.length_cons, List.length_nil]; omega)) (StE.bind (spec_l2Fault_ev ((gt x0.fOuts (i0 : Int)).fRule) (((h_x0.2.2.2).2 _ (gt_mem (by first | omega | (have hq := len_eq (by assumption); omega) | (simp_all [idxOk]; omega) | (simp [idxOk]; omega) | (have hf0 := h_x0.2.2.1.1; have hf1 := h_x0.2.2.2.1; simp only [leB, decide_eq_true_eq, List.length_append, List.length_cons, List.length_nil]; omega)))).2)) (StE.ifh (fun hc1 => (StE.ret _)) (fun hc1 => StE.next))))))))) (fun j hj => by
  simp only [spec_l3Outs.l0_s]
  exact Evt.f (ge_lt hj) (Evt.self _))) (fun _ => rfl) (Evt.chk (by first | exact idx_ok (by omega) | exact idx_ok (by have hq := len_eq (by assumption); omega) | exact idx_found (by simp_all) | exact cut_ok (by omega) | exact or_ok (idx_ok (by omega)) | (refine or1 (fun hz => pre_ok (by simp at hz; omega) (by omega) (by omega))) | exact pre_ok (by omega) (by omega) (by omega) | (simp_all [idxOk, cutOk, leB]; done) | (simp_all [idxOk, cutOk, leB]; omega) | (simp [idxOk, cutOk, leB] at *; omega) | (simp_all [idxOk]; omega) | (simp [idxOk]; omega) | (have hf0 := h_x0.2.2.1.1; have hf1 := h_x0.2.2.2.1; simp only [leB, decide_eq_true_eq, List.length_append, List.length_cons, List.length_nil]; omega)) (Evt.ifh (fun hc3 => (Evt.self _)) (fun hc3 => (Evt.self _)))))
def spec_l3Fault_v (x0 : Tx) : Int := (bif ((!(spec_l1In_v x0.fKind 0 2)) || ((x0.fKind == 0) != (x0.fMember == 0))) then 1 else (bif ((x0.fKind != 0) && (!(bif (x0.fKind != 0) then (spec_l1Key_v x0.fMember) else default))) then 3 else (bif ((!(spec_l1In_v (x0.fIns.length : Int) 1 4)) || (!(bif (!(!(spec_l1In_v (x0.fIns.length : Int) 1 4))) then (spec_l1In_v (x0.fOuts.length : Int) 1 4) else default))) then 2 else (onO ((List.range' 0 (x0.fIns.length - 0)).findSome? (fun (i0 : Nat) => (bif !(spec_l3Ref_v (gt x0.fIns (i0 : Int))) then (some 3) else (bif (spec_l3Among_v (x0.fIns.take ((i0 : Int)).toNat) (gt x0.fIns (i0 : Int))) then (some 7) else none)))) (fun r => r) (spec_l3Outs_v x0)))))
theorem spec_l3Fault_ev (x0 : Tx) (h_x0 : smTx x0) : Evt (fun k => spec_l3Fault.f k x0) (spec_l3Fault_v x0) :=
  (Evt.bind (spec_l1In_ev x0.fKind 0 2) (Evt.ifh (fun hc5 => (Evt.self _)) (fun hc5 => (Evt.bind (Evt.ifh (fun _ => (spec_l1Key_ev x0.fMember)) (fun _ => Evt.self _)) (Evt.ifh (fun hc4 => (Evt.self _)) (fun hc4 => (Evt.bind (spec_l1In_ev (x0.fIns.length : Int) 1 4) (Evt.bind (Evt.ifh (fun _ => (spec_l1In_ev (x0.fOuts.length : Int) 1 4)) (fun _ => Evt.self _)) (Evt.ifh (fun hc3 => (Evt.self _)) (fun hc3 => (Evt.loop (r' := fun r => r) (Evt.srch (L := (fun k i => spec_l3Fault.l0 x0 k i)) 0 x0.fIns.length (by have := h_x0.2.2.1; first | (have := this.1; omega) | omega) (fun (i0 : Nat) => (bif !(spec_l3Ref_v (gt x0.fIns (i0 : Int))) then (some 3) else (bif (spec_l3Among_v (x0.fIns.take ((i0 : Int)).toNat) (gt x0.fIns (i0 : Int))) then (some 7) else none))) (fun i0 hs3 hi3 => by
  have hbn : x0.fIns.length ≤ 9223372036854775807 := (by have := h_x0.2.2.1; first | (have := this.1; omega) | omega)
  simp only [spec_l3Fault.l0_s]
  exact Evt_t2 (int_lt hi3) (StE.chk (by first | exact idx_ok (by omega) | exact idx_ok (by have hq := len_eq (by assumption); omega) | exact idx_found (show (0 : Int) ≤ (i0 : Int) by simp_all) | exact cut_ok (by omega) | exact or_ok (idx_ok (by omega)) | (refine or1 (fun hz => pre_ok (by simp at hz; omega) (by omega) (by omega))) | exact pre_ok (by omega) (by omega) (by omega) | (simp_all [idxOk, cutOk, leB]; done) | (simp_all [idxOk, cutOk, leB]; omega) | (simp [idxOk, cutOk, leB] at *; omega) | (simp_all [spec_l1In_v]; omega) | (have hf0 := h_x0.2.2.1.1; have hf1 := h_x0.2.2.2.1; simp only [leB, decide_eq_true_eq, List.length_append, List.length_cons, List.length_nil]; omega)) (StE.bind (spec_l3Ref_ev (gt x0.fIns (i0 : Int))) (StE.ifh (fun hc2 => (StE.ret _)) (fun hc2 => (StE.chk (by first | exact idx_ok (by omega) | exact idx_ok (by have hq := len_eq (by assumption); omega) | exact idx_found (by simp_all) | exact cut_ok (by omega) | exact or_ok (idx_ok (by omega)) | (refine or1 (fun hz => pre_ok (by simp at hz; omega) (by omega) (by omega))) | exact pre_ok (by omega) (by omega) (by omega) | (simp_all [idxOk, cutOk, leB]; done) | (simp_all [idxOk, cutOk, leB]; omega) | (simp [idxOk, cutOk, leB] at *; omega) | (simp_all [spec_l1In_v]; omega) | (have hf0 := h_x0.2.2.1.1; have hf1 := h_x0.2.2.2.1; simp only [leB, decide_eq_true_eq, List.length_append, List.length_cons, List.length_nil]; omega)) (StE.chk (by first | exact idx_ok (by omega) | exact idx_ok (by have hq := len_eq (by assumption); omega) | exact idx_found (show (0 : Int) ≤ (i0 : Int) by simp_all) | exact cut_ok (by omega) | exact or_ok (idx_ok (by omega)) | (refine or1 (fun hz => pre_ok (by simp at hz; omega) (by omega) (by omega))) | exact pre_ok (by omega) (by omega) (by omega) | (simp_all [idxOk, cutOk, leB]; done) | (simp_all [idxOk, cutOk, leB]; omega) | (simp [idxOk, cutOk, leB] at *; omega) | (simp_all [spec_l1In_v]; omega) | (have hf0 := h_x0.2.2.1.1; have hf1 := h_x0.2.2.2.1; simp only [leB, decide_eq_true_eq, List.length_append, List.length_cons, List.length_nil]; omega)) (StE.bind (spec_l3Among_ev (x0.fIns.take ((i0 : Int)).toNat) (gt x0.fIns (i0 : Int)) ((Lm_take h_x0.2.2.1))) (StE.ifh (fun hc1 => (StE.ret _)) (fun hc1 => StE.next)))))))))) (fun j hj => by
  simp only [spec_l3Fault.l0_s]
  exact Evt.f (ge_lt hj) (Evt.self _))) (fun _ => rfl) (Evt.bind (spec_l3Outs_ev x0 (h_x0) (by first | assumption | (simp_all; omega) | (simp_all [spec_l1In_v]; omega) | (have hf0 := h_x0.2.2.1.1; have hf1 := h_x0.2.2.2.1; simp only [leB, decide_eq_true_eq, List.length_append, List.length_cons, List.length_nil]; omega))) (Evt.self _)))))))))))))
/-! ### A transaction's text, as bytes -/
def refL (r : Ref) : List UInt8 := dgL r.fTx ++ [58] ++ dgL r.fAt
def outL (o : Out) : List UInt8 := dgL o.fValue ++ [61] ++ ruleL o.fRule [95]
def kindW (k : Int) : List UInt8 := bif k == 0 then [112, 97, 121] else bif k == 1 then [106, 111, 105, 110] else [108, 101, 97, 118, 101]
def txHead (t : Tx) : List (List UInt8) := bif t.fKind != 0 then [kindW t.fKind, dgL t.fMember] else [kindW t.fKind]
def txWs (t : Tx) : List (List UInt8) := txHead t ++ [Lib.join (t.fIns.map refL) [43]] ++ t.fOuts.map outL
def txL (t : Tx) : List UInt8 := Lib.join (txWs t) [32]
structure TxOK (t : Tx) : Prop where
  kind : 0 ≤ t.fKind ∧ t.fKind ≤ 2
  mem0 : t.fKind = 0 → t.fMember = 0
  mem : t.fKind ≠ 0 → 1 ≤ t.fMember ∧ t.fMember ≤ 999
  ins1 : 1 ≤ t.fIns.length
  ins4 : t.fIns.length ≤ 4
  outs1 : 1 ≤ t.fOuts.length
  outs4 : t.fOuts.length ≤ 4
  ins : ∀ r ∈ t.fIns, (1 ≤ r.fTx ∧ r.fTx ≤ 60) ∧ 0 ≤ r.fAt ∧ r.fAt ≤ 3
  outs : ∀ o ∈ t.fOuts, (1 ≤ o.fValue ∧ o.fValue ≤ 1000000) ∧ spec_l2Fault_v o.fRule = 0
theorem tx_ok (x0 : Tx) (h : (spec_l3Fault_v x0 != 0) = false) : TxOK x0 := by
  have h0 : spec_l3Fault_v x0 = 0 := by simpa using h
  unfold spec_l3Fault_v at h0
  cases hc : ((!(spec_l1In_v x0.fKind 0 2)) || ((x0.fKind == 0) != (x0.fMember == 0)))
  · rw [hc] at h0
    cases hd : ((x0.fKind != 0) && (!(bif (x0.fKind != 0) then (spec_l1Key_v x0.fMember) else default)))
    · rw [hd] at h0
      cases he : ((!(spec_l1In_v (x0.fIns.length : Int) 1 4)) || (!(bif (!(!(spec_l1In_v (x0.fIns.length : Int) 1 4))) then (spec_l1In_v (x0.fOuts.length : Int) 1 4) else default)))
      · rw [he] at h0
        have h1 : onO ((List.range' 0 (x0.fIns.length - 0)).findSome? (fun (i0 : Nat) => (bif !(spec_l3Ref_v (gt x0.fIns (i0 : Int))) then (some (3 : Int)) else (bif (spec_l3Among_v (x0.fIns.take ((i0 : Int)).toNat) (gt x0.fIns (i0 : Int))) then (some 7) else none)))) (fun r => r) (spec_l3Outs_v x0) = 0 := h0
        obtain ⟨h2, h3⟩ := onO_zero h1 (fun i => by
          cases spec_l3Ref_v (gt x0.fIns (i : Int))
          · simp
          · cases spec_l3Among_v (x0.fIns.take ((i : Int)).toNat) (gt x0.fIns (i : Int)) <;> simp)
        have hk := fs_all h2
        unfold spec_l3Outs_v at h3
        obtain ⟨h4, _⟩ := onO_zero h3 (fun i => by
          cases spec_l1In_v ((gt x0.fOuts (i : Int)).fValue) 1 1000000
          · simp
          · cases hq : spec_l2Fault_v ((gt x0.fOuts (i : Int)).fRule) != 0
            · simp
            · simp only [Bool.not_true, cond_false, cond_true]
              intro e
              rw [Option.some.inj e] at hq; cases hq)
        have hl := fs_all h4
        simp only [spec_l1In_v, spec_l1Key_v, Bool.or_eq_false_iff, Bool.not_eq_false', Bool.and_eq_true, decide_eq_true_eq] at hc he
        obtain ⟨hc1, hc2⟩ := hc
        obtain ⟨he1, he2⟩ := he
        have he3 : 1 ≤ (x0.fOuts.length : Int) ∧ (x0.fOuts.length : Int) ≤ 4 := by
          have e : (decide (1 ≤ (x0.fIns.length : Int)) && decide ((x0.fIns.length : Int) ≤ 4)) = true := by rw [Bool.and_eq_true, decide_eq_true_eq, decide_eq_true_eq]; exact he1
          rw [e] at he2
          have he2' : (decide (1 ≤ (x0.fOuts.length : Int)) && decide ((x0.fOuts.length : Int) ≤ 4)) = true := he2
          rwa [Bool.and_eq_true, decide_eq_true_eq, decide_eq_true_eq] at he2'
        have hc3 : (x0.fKind == 0) = (x0.fMember == 0) := by
          cases e1 : (x0.fKind == 0) <;> cases e2 : (x0.fMember == 0) <;> rw [e1, e2] at hc2 <;> first | rfl | cases hc2
        refine ⟨hc1, fun hz => ?_, fun hz => ?_, by omega, by omega, by omega, by omega, fun r hr => ?_, fun o ho => ?_⟩
        · have : (x0.fMember == 0) = true := by rw [← hc3, hz]; rfl
          simpa using this
        · have e1 : (x0.fKind != 0) = true := by simpa using hz
          rw [e1] at hd
          have hd' : spec_l1Key_v x0.fMember = true := by
            cases hq : spec_l1Key_v x0.fMember
            · rw [hq] at hd; cases hd
            · rfl
          simpa only [spec_l1Key_v, spec_l1In_v, Bool.and_eq_true, decide_eq_true_eq] using hd'
        · obtain ⟨i, hi, rfl⟩ := List.getElem_of_mem hr
          have h5 := hk i hi
          rw [gt_eq (by simpa using hi)] at h5
          cases h6 : spec_l3Ref_v x0.fIns[i]
          · simp only [Int.toNat_natCast] at h5; rw [h6] at h5; cases h5
          · unfold spec_l3Ref_v at h6
            rw [Bool.and_eq_true] at h6
            rw [h6.1] at h6
            have h7 : spec_l1In_v x0.fIns[i].fAt 0 3 = true := h6.2
            have h8 := h6.1
            simp only [spec_l1In_v, Bool.and_eq_true, decide_eq_true_eq] at h7
            refine ⟨?_, h7⟩
            have h9 : spec_l1In_v x0.fIns[i].fTx 1 60 = true := by
              cases hq : spec_l1In_v x0.fIns[i].fTx 1 60
              · have h5' := hk i hi
                rw [gt_eq (by simpa using hi)] at h5'
                simp only [Int.toNat_natCast, spec_l3Ref_v] at h5'
                rw [hq] at h5'; cases h5'
              · rfl
            simpa only [spec_l1In_v, Bool.and_eq_true, decide_eq_true_eq] using h9
        · obtain ⟨i, hi, rfl⟩ := List.getElem_of_mem ho
          have h5 := hl i hi
          rw [gt_eq (by simpa using hi)] at h5
          simp only [Int.toNat_natCast] at h5
          cases h6 : spec_l1In_v x0.fOuts[i].fValue 1 1000000
          · rw [h6] at h5; cases h5
          · rw [h6] at h5
            simp only [spec_l1In_v, Bool.and_eq_true, decide_eq_true_eq] at h6
            refine ⟨h6, ?_⟩
            cases h7 : spec_l2Fault_v x0.fOuts[i].fRule != 0
            · simpa using h7
            · rw [h7] at h5; cases h5
      · rw [he] at h0; exact absurd (show (2 : Int) = 0 from h0) (by decide)
    · rw [hd] at h0; exact absurd (show (3 : Int) = 0 from h0) (by decide)
  · rw [hc] at h0; exact absurd (show (1 : Int) = 0 from h0) (by decide)
theorem refL_len {r : Ref} (h : (1 ≤ r.fTx ∧ r.fTx ≤ 60) ∧ 0 ≤ r.fAt ∧ r.fAt ≤ 3) : (refL r).length ≤ 4 := by
  have h1 := dg_l2 (n := r.fTx) (by omega)
  have h2 := dg_l1 (n := r.fAt) (by omega)
  unfold refL
  simp only [List.length_append, List.length_cons, List.length_nil]; omega
theorem outL_len {o : Out} (h : (1 ≤ o.fValue ∧ o.fValue ≤ 1000000) ∧ spec_l2Fault_v o.fRule = 0) : (outL o).length ≤ 58 := by
  have h1 := dg_l7 (n := o.fValue) (by omega)
  have h2 := ruleL_len o.fRule 95 (rule_ok o.fRule (by rw [h.2]; rfl))
  unfold outL
  simp only [List.length_append, List.length_cons, List.length_nil]; omega
theorem ins_len {t : Tx} (ht : TxOK t) : (Lib.join (t.fIns.map refL) [43]).length ≤ 20 := by
  have hk := join_le (m := 4) (n := 4) (sep := [43]) (xs := t.fIns.map refL) (by
    intro x hx
    obtain ⟨y, hy, rfl⟩ := List.mem_map.1 hx
    exact refL_len (ht.ins y hy)) (by rw [List.length_map]; exact ht.ins4)
  simp only [List.length_cons, List.length_nil] at hk; omega
theorem kindW_len (k : Int) : (kindW k).length ≤ 5 := by unfold kindW; cases k == 0 <;> cases k == 1 <;> decide
theorem txWs_len {t : Tx} (ht : TxOK t) : (txWs t).length ≤ 7 ∧ ∀ p ∈ txWs t, p.length ≤ 58 := by
  have ho := ht.outs4
  refine ⟨?_, fun p hp => ?_⟩
  · unfold txWs txHead
    cases t.fKind != 0 <;> simp <;> omega
  · unfold txWs at hp
    rcases List.mem_append.1 hp with hp | hp
    · rcases List.mem_append.1 hp with hp | hp
      · unfold txHead at hp
        have hk := kindW_len t.fKind
        cases hz : t.fKind != 0
        · rw [hz] at hp; simp at hp; subst hp; omega
        · rw [hz] at hp
          have hm := dg_l3 (n := t.fMember) (by have := ht.mem (by simpa using hz); omega)
          simp at hp; rcases hp with rfl | rfl <;> omega
      · have := ins_len ht
        simp at hp; subst hp; omega
    · obtain ⟨o, ho, rfl⟩ := List.mem_map.1 hp
      exact outL_len (ht.outs o ho)
theorem txL_len {t : Tx} (ht : TxOK t) : (txL t).length ≤ 413 := by
  obtain ⟨h1, h2⟩ := txWs_len ht
  have hk := join_le (m := 58) (n := 7) (sep := [32]) h2 h1
  simp only [List.length_cons, List.length_nil] at hk
  unfold txL; omega
theorem tail_app (s : List UInt8) (a b : List (List UInt8)) : Lib.joinTail s (a ++ b) = Lib.joinTail s a ++ Lib.joinTail s b := by simp [Lib.joinTail]
theorem txL_eq (t : Tx) : txL t = (bif t.fKind != 0 then kindW t.fKind ++ [32] ++ dgL t.fMember else kindW t.fKind) ++ [32] ++ Lib.join (t.fIns.map refL) [43] ++ Lib.joinTail [32] (t.fOuts.map outL) := by
  unfold txL txWs txHead
  cases t.fKind != 0
  · simp only [cond_false]
    rw [List.append_assoc, List.cons_append, List.nil_append, Lib.join_cons, tail_app]
    simp [Lib.joinTail]
  · simp only [cond_true]
    rw [List.append_assoc, List.cons_append, Lib.join_cons, tail_app, tail_app]
    simp [Lib.joinTail]
theorem spec_l2Digits_ev (n : Int) (h0 : 0 ≤ n) (h1 : n ≤ 1000000) : Evt (fun k => spec_l2Digits.f k n) (mkB (dgL n)) := by
  have key : ∀ u : Nat, u ≤ 1000000 → Evt (fun k => spec_l2Digits.f k (u : Int)) (mkB (Lib.decDigits u)) := by
    intro u
    induction u using Nat.strongRecOn with
    | _ u ih =>
      intro hu
      refine Evt.s ?_
      simp only [spec_l2Digits.f_s]
      by_cases h : u < 10
      · have e1 : IntKind.u8.wrap (wrap64 (48 + (u : Int))) = ((48 + u : Nat) : Int) := by rw [wrap64_in _ (by omega), u8_in _ (by omega)]; omega
        rw [e1, Lib.decDigits, dif_pos h]
        exact Evt.t (by simp; omega) (Evt.self _)
      · have e1 : IntKind.i64.wrap (Int.tdiv (u : Int) 10) = ((u / 10 : Nat) : Int) := by rw [i64_quo _ _ ⟨by omega, by omega, by omega⟩]; omega
        have e0 : Int.tmod (u : Int) 10 = ((u % 10 : Nat) : Int) := by rw [rem_in _ _ (by omega)]; omega
        have e2 : IntKind.u8.wrap (wrap64 (48 + (Int.tmod (u : Int) 10))) = ((48 + u % 10 : Nat) : Int) := by rw [e0, wrap64_in _ (by omega), u8_in _ (by omega)]; omega
        have hl' : (Lib.decDigits (u / 10)).length ≤ u / 10 + 1 := by
          have hl := dgL_len ((u / 10 : Nat) : Int) (u / 10) (Int.toNat_natCast _)
          unfold dgL at hl
          rw [Int.toNat_natCast] at hl
          exact hl
        refine Evt.f (by simp; omega) (Evt.chk rfl (Evt.chk rfl ?_))
        rw [e1, e2]
        have e3 : strOfNums ([((48 + u % 10 : Nat) : Int)] : List Int) = mkB [UInt8.ofNat (48 + u % 10)] := rfl
        refine (Evt.bind (ih (u / 10) (by omega) (by omega)) (Evt.chk ?_ (Evt.self _))).to ?_
        · refine decide_eq_true ?_
          rw [mkB_size, e3, mkB_size]; simp; omega
        · rw [e3, mkB_append, Lib.decDigits.eq_1 u, dif_neg h]
  have := key n.toNat (by omega)
  rw [Int.toNat_of_nonneg h0] at this
  exact this
theorem spec_l2Text_loop (r : Rule) (hk : ∀ x ∈ r.fKeys, 1 ≤ x ∧ x ≤ 999) (hn : r.fKeys.length ≤ 3) : ∀ (d i : Nat) (acc : List UInt8), i + d = r.fKeys.length → acc.length + 1100 * d ≤ 100000 → Evt (fun k => spec_l2Text.l0 r k (mkB acc) (i : Int)) (mkB (acc ++ Lib.joinTail [44] ((r.fKeys.drop i).map dgL)))
  | 0, i, acc, hi, hl => by
    rw [List.drop_of_length_le (by omega)]
    refine Evt.s ?_
    simp only [spec_l2Text.l0_s]
    exact Evt.f (ge_lt (by omega)) (Evt.ret (by simp [Lib.joinTail]))
  | d + 1, i, acc, hi, hl => by
    have hlt : i < r.fKeys.length := by omega
    have hx := hk _ (gt_mem hlt)
    have hd := dg3 (gt r.fKeys (i : Int)) (by omega) hx.2
    have c2 : (⟨#[44]⟩ : ByteArray) = mkB [44] := rfl
    have hg : gt r.fKeys (i : Int) = r.fKeys[i] := gt_eq (by simpa using hlt)
    refine Evt.s ?_
    simp only [spec_l2Text.l0_s, c2, mkB_append, mkB_size, List.length_append, List.length_cons, List.length_nil]
    refine Evt.t (int_lt hlt) (Evt.chk (leB_mk (by omega)) (Evt.chk (idx_ok hlt) (Evt.bind (spec_l2Digits_ev (gt r.fKeys (i : Int)) (by omega) (by omega)) ?_)))
    simp only [mkB_append, mkB_size, List.length_append, List.length_cons, List.length_nil]
    refine Evt.chk (leB_mk (by omega)) ?_
    rw [w64 hlt (by omega)]
    refine (spec_l2Text_loop r hk hn d (i + 1) _ (by omega) (by simp only [List.length_append, List.length_cons, List.length_nil]; omega)).to ?_
    have ed : r.fKeys.drop i = r.fKeys[i] :: r.fKeys.drop (i + 1) := List.drop_eq_getElem_cons hlt
    rw [ed, hg, List.map_cons]
    unfold Lib.joinTail
    rw [List.map_cons, List.flatten_cons]
    simp only [List.append_assoc, List.cons_append, List.nil_append]
def spec_l2Text_v (r : Rule) : ByteArray := mkB (ruleL r [32])
theorem spec_l2Text_ev (r : Rule) (hr0 : smRule r) (hpre : (spec_l2Fault_v r != 0) = false) : Evt (fun k => spec_l2Text.f k r) (spec_l2Text_v r) := by
  have hr := rule_ok r hpre
  have hd := dg3 r.fNeed (by have := hr.need; omega) (by have := hr.need; omega)
  have hf := dg3 r.fAfter hr.after.1 hr.after.2
  have hlt : 0 < r.fKeys.length := hr.n1
  have hx := hr.key _ (gt_mem hlt)
  have hk0 := dg3 (gt r.fKeys ((0 : Nat) : Int)) (by omega) hx.2
  have hj := join3 r.fKeys hr.n1 hr.n3 hr.key
  have c1 : (⟨#[32, 111, 102, 32]⟩ : ByteArray) = mkB [32, 111, 102, 32] := rfl
  have c2 : (⟨#[32, 97, 102, 116, 101, 114, 32]⟩ : ByteArray) = mkB [32, 97, 102, 116, 101, 114, 32] := rfl
  have hg : gt r.fKeys ((0 : Nat) : Int) = r.fKeys[0] := gt_eq (by simpa using hlt)
  have ejoin : Lib.join (r.fKeys.map dgL) [44] = dgL (gt r.fKeys ((0 : Nat) : Int)) ++ Lib.joinTail [44] ((r.fKeys.drop 1).map dgL) := by
    have : r.fKeys = r.fKeys[0] :: r.fKeys.drop 1 := by
      have := List.drop_eq_getElem_cons hlt
      simpa using this
    rw [hg]
    conv => lhs; rw [this]
    rw [List.map_cons, Lib.join_cons]
  unfold spec_l2Text.f
  simp only [c1, c2]
  refine Evt.chk (idx_ok hlt) (Evt.bind (spec_l2Digits_ev r.fNeed (by have := hr.need; omega) (by have := hr.need; omega)) ?_)
  simp only [mkB_append, mkB_size, List.length_append, List.length_cons, List.length_nil]
  refine Evt.chk (leB_mk (by omega)) (Evt.bind (spec_l2Digits_ev (gt r.fKeys ((0 : Nat) : Int)) (by omega) (by omega)) ?_)
  simp only [mkB_append, mkB_size, List.length_append, List.length_cons, List.length_nil]
  refine Evt.chk (leB_mk (by omega)) (Evt.bind (spec_l2Text_loop r hr.key hr.n3 (r.fKeys.length - 1) 1 _ (by omega) (by have := hr.n3; simp only [List.length_append, List.length_cons, List.length_nil]; omega)) ?_)
  have hl2 : (dgL (gt r.fKeys ((0 : Nat) : Int))).length + (Lib.joinTail [44] ((r.fKeys.drop 1).map dgL)).length ≤ 3100 := by
    rw [ejoin, List.length_append] at hj; exact hj
  unfold spec_l2Text_v ruleL
  rw [ejoin]
  cases ha : r.fAfter != 0
  · refine Evt.f rfl (Evt.ret ?_)
    simp [List.append_assoc]
  · simp only [mkB_append, mkB_size, List.length_append, List.length_cons, List.length_nil]
    refine Evt.t rfl (Evt.chk (leB_mk (by omega)) (Evt.bind (spec_l2Digits_ev r.fAfter hr.after.1 (by have := hr.after.2; omega)) ?_))
    simp only [mkB_append, mkB_size, List.length_append, List.length_cons, List.length_nil]
    refine Evt.chk (leB_mk (by omega)) (Evt.ret ?_)
    simp [List.append_assoc]
def swB (b : UInt8) : UInt8 := if b = 32 then 95 else b
def swI (n : Int) : Int := bif n == 32 then 95 else n
theorem swap_loop (xs : List Int) (hn : xs.length ≤ 1000000) : ∀ (d i : Nat) (acc : List Int), i + d = xs.length → acc = (xs.take i).map swI ++ xs.drop i → Evt (fun k => spec_l3Swap.l0 32 95 k acc (i : Int)) (xs.map swI)
  | 0, i, acc, hi, ha => by
    have e1 : xs.drop i = [] := List.drop_of_length_le (by omega)
    have e2 : xs.take i = xs := List.take_of_length_le (by omega)
    rw [e1, e2, List.append_nil] at ha
    subst ha
    refine Evt.s ?_
    simp only [spec_l3Swap.l0_s, List.length_map]
    exact Evt.f (ge_lt (by omega)) (Evt.self _)
  | d + 1, i, acc, hi, ha => by
    have hlt : i < xs.length := by omega
    have ed : xs.drop i = xs[i] :: xs.drop (i + 1) := List.drop_eq_getElem_cons hlt
    have et : xs.take (i + 1) = xs.take i ++ [xs[i]] := List.take_succ_eq_append_getElem hlt
    have hl : acc.length = xs.length := by rw [ha, List.length_append, List.length_map, List.length_take, List.length_drop]; omega
    have hlm : ((xs.take i).map swI).length = i := by rw [List.length_map, List.length_take]; omega
    have hg : gt acc (i : Int) = xs[i] := by
      rw [gt_eq (by rw [hl]; simpa using hlt)]
      simp only [Int.toNat_natCast]
      have : acc[i]? = some xs[i] := by rw [ha, List.getElem?_append_right (by omega), hlm, Nat.sub_self, ed]; rfl
      rw [List.getElem?_eq_getElem (by omega)] at this
      exact Option.some.inj this
    refine Evt.s ?_
    simp only [spec_l3Swap.l0_s, hl, hg]
    refine Evt.t (int_lt hlt) (Evt.chk (idx_ok hlt) ?_)
    rw [w64 hlt (by omega)]
    cases hz : xs[i] == 32
    · refine Evt.f rfl (swap_loop xs hn d (i + 1) acc (by omega) ?_)
      have e : swI xs[i] = xs[i] := by unfold swI; rw [hz]; rfl
      rw [ha, et, ed, List.map_append, List.map_cons, List.map_nil, e]; simp
    · refine Evt.t rfl (Evt.chk (idx_ok hlt) (swap_loop xs hn d (i + 1) _ (by omega) ?_))
      have e : swI xs[i] = 95 := by unfold swI; rw [hz]; rfl
      simp only [Int.toNat_natCast]
      rw [ha, et, ed, List.map_append, List.map_cons, List.map_nil, e]
      rw [List.set_append, if_neg (by omega), hlm, Nat.sub_self, List.set_cons_zero]; simp
theorem swB_I (b : UInt8) : UInt8.ofNat (swI (b.toNat : Int)).toNat = swB b := by
  unfold swI swB
  by_cases h : b = 32
  · subst h; rfl
  · have : ((b.toNat : Int) == 32) = false := by
      have h2 : b.toNat ≠ 32 := fun e => h (UInt8.toNat_inj.1 e)
      simp; omega
    rw [this, if_neg h]
    show UInt8.ofNat (b.toNat : Int).toNat = b
    rw [Int.toNat_natCast, UInt8.ofNat_toNat]
theorem swap_ev (l : List UInt8) (hn : l.length ≤ 1000000) : Evt (fun k => spec_l3Swap.f k (mkB l) 32 95) (mkB (l.map swB)) := by
  have hs : strNums (mkB l) = l.map fun b => (b.toNat : Int) := by simp [strNums, mkB]
  unfold spec_l3Swap.f
  rw [hs]
  refine Evt.bind (swap_loop (l.map fun b => (b.toNat : Int)) (by rw [List.length_map]; exact hn) _ 0 _ (Nat.zero_add _) (by simp)) (Evt.ret ?_)
  show mkB ((List.map swI (l.map fun b => (b.toNat : Int))).map fun n => UInt8.ofNat n.toNat) = _
  rw [List.map_map, List.map_map]
  congr 1
  refine List.map_congr_left fun b _ => ?_
  exact swB_I b
theorem sw_id {l : List UInt8} (h : (32 : UInt8) ∉ l) : l.map swB = l := by
  conv => rhs; rw [← List.map_id l]
  refine List.map_congr_left fun b hb => ?_
  unfold swB
  rw [if_neg (fun e : b = 32 => h (by rw [← e]; exact hb))]; rfl
theorem sw_rule (r : Rule) : (ruleL r [32]).map swB = ruleL r [95] := by
  have hd : ∀ n : Int, (dgL n).map swB = dgL n := fun n => sw_id (dg_no nodg n)
  have hj : (Lib.join (r.fKeys.map dgL) [44]).map swB = Lib.join (r.fKeys.map dgL) [44] := sw_id fun h => by
    rcases mem_join h with h | ⟨p, hp, h⟩
    · exact absurd h (by decide)
    · obtain ⟨x, _, rfl⟩ := List.mem_map.1 hp
      exact dg_no nodg _ h
  have h1 : [32].map swB = [95] := rfl
  have h2 : [111, 102].map swB = [111, 102] := rfl
  have h3 : [97, 102, 116, 101, 114].map swB = [97, 102, 116, 101, 114] := rfl
  unfold ruleL
  cases r.fAfter != 0
  · simp only [cond_false, List.map_append, hd, hj, h1, h2, List.map_nil]
  · simp only [cond_true, List.map_append, hd, hj, h1, h2, h3]
theorem l3Text_ins (t : Tx) (ht : TxOK t) (i : Nat) (acc sep : List UInt8) (hlt : i < t.fIns.length) (hs : sep.length = 1) (hl : acc.length ≤ 100000) (hz : (bif ((i : Int) == 0) then some (⟨#[32]⟩ : ByteArray) else some (⟨#[43]⟩ : ByteArray)) = some (mkB sep)) {r : ByteArray}
    (h : Evt (fun k => spec_l3Text.l0 t k (mkB (acc ++ sep ++ refL t.fIns[i])) ((i + 1 : Nat) : Int)) r) : Evt (fun k => spec_l3Text.l0 t k (mkB acc) (i : Int)) r := by
  have hx := ht.ins _ (List.getElem_mem hlt)
  have hg : gt t.fIns (i : Int) = t.fIns[i] := gt_eq (by simpa using hlt)
  have hd1 := dg_l2 (n := t.fIns[i].fTx) (by omega)
  have hd2 := dg_l1 (n := t.fIns[i].fAt) (by omega)
  have c58 : (⟨#[58]⟩ : ByteArray) = mkB [58] := rfl
  refine Evt.s ?_
  simp only [spec_l3Text.l0_s, hz, Option.bind_some, mkB_size, hg, c58]
  refine Evt.t (int_lt hlt) (Evt.chk (leB_mk (by omega)) (Evt.chk (idx_ok hlt) (Evt.chk (idx_ok hlt) (Evt.bind (spec_l2Digits_ev t.fIns[i].fTx (by omega) (by omega)) ?_))))
  simp only [mkB_append, mkB_size, List.length_append, List.length_cons, List.length_nil]
  refine Evt.chk (leB_mk (by omega)) (Evt.chk (leB_mk (by omega)) (Evt.bind (spec_l2Digits_ev t.fIns[i].fAt (by omega) (by omega)) ?_))
  simp only [mkB_append, mkB_size, List.length_append, List.length_cons, List.length_nil]
  refine Evt.chk (leB_mk (by omega)) ?_
  rw [w64 hlt (by have := ht.ins4; omega)]
  have e : acc ++ sep ++ dgL t.fIns[i].fTx ++ [58] ++ dgL t.fIns[i].fAt = acc ++ sep ++ refL t.fIns[i] := by unfold refL; simp [List.append_assoc]
  rw [e]; exact h
theorem l3Text_l0 (t : Tx) (ht : TxOK t) : ∀ (d i : Nat) (acc : List UInt8), 1 ≤ i → i + d = t.fIns.length → acc.length + 10 * d ≤ 90000 → Evt (fun k => spec_l3Text.l0 t k (mkB acc) (i : Int)) (mkB (acc ++ Lib.joinTail [43] ((t.fIns.drop i).map refL)))
  | 0, i, acc, h1, hi, hl => by
    rw [List.drop_of_length_le (by omega)]
    refine Evt.s ?_
    simp only [spec_l3Text.l0_s]
    exact Evt.f (ge_lt (by omega)) (Evt.ret (by simp [Lib.joinTail]))
  | d + 1, i, acc, h1, hi, hl => by
    have hlt : i < t.fIns.length := by omega
    have hx := refL_len (ht.ins _ (List.getElem_mem hlt))
    have hz : ((i : Int) == 0) = false := by simp; omega
    refine l3Text_ins t ht i acc [43] hlt rfl (by omega) (by rw [hz]; rfl) ?_
    refine (l3Text_l0 t ht d (i + 1) _ (by omega) (by omega) (by simp only [List.length_append, List.length_cons, List.length_nil]; omega)).to ?_
    have ed : t.fIns.drop i = t.fIns[i] :: t.fIns.drop (i + 1) := List.drop_eq_getElem_cons hlt
    rw [ed, List.map_cons]
    unfold Lib.joinTail
    rw [List.map_cons, List.flatten_cons]
    simp only [List.append_assoc, List.cons_append, List.nil_append]
theorem l3Text_l1 (t : Tx) (h_t : smTx t) (ht : TxOK t) : ∀ (d i : Nat) (acc : List UInt8), i + d = t.fOuts.length → acc.length + 100 * d ≤ 90000 → Evt (fun k => spec_l3Text.l1 t k (mkB acc) (i : Int)) (mkB (acc ++ Lib.joinTail [32] ((t.fOuts.drop i).map outL)))
  | 0, i, acc, hi, hl => by
    rw [List.drop_of_length_le (by omega)]
    refine Evt.s ?_
    simp only [spec_l3Text.l1_s]
    exact Evt.f (ge_lt (by omega)) (Evt.ret (by simp [Lib.joinTail]))
  | d + 1, i, acc, hi, hl => by
    have hlt : i < t.fOuts.length := by omega
    have hx := ht.outs _ (List.getElem_mem hlt)
    have hol := outL_len hx
    have hg : gt t.fOuts (i : Int) = t.fOuts[i] := gt_eq (by simpa using hlt)
    have hr := rule_ok t.fOuts[i].fRule (by rw [hx.2]; rfl)
    have hd1 := dg_l7 (n := t.fOuts[i].fValue) (by omega)
    have hrl := ruleL_len t.fOuts[i].fRule 32 hr
    have c1 : (⟨#[32]⟩ : ByteArray) = mkB [32] := rfl
    have c2 : (⟨#[61]⟩ : ByteArray) = mkB [61] := rfl
    have hsw := swap_ev (ruleL t.fOuts[i].fRule [32]) (by omega)
    rw [sw_rule] at hsw
    have hrl2 := ruleL_len t.fOuts[i].fRule 95 hr
    refine Evt.s ?_
    simp only [spec_l3Text.l1_s, hg, c1, c2, mkB_append, mkB_size, List.length_append, List.length_cons, List.length_nil]
    refine Evt.t (int_lt hlt) (Evt.chk (leB_mk (by omega)) (Evt.chk (idx_ok hlt) (Evt.chk (idx_ok hlt) (Evt.bind (spec_l2Digits_ev t.fOuts[i].fValue (by omega) (by omega)) ?_))))
    simp only [mkB_append, mkB_size, List.length_append, List.length_cons, List.length_nil]
    refine Evt.chk (leB_mk (by omega)) (Evt.chk (leB_mk (by omega)) (Evt.bind (spec_l2Text_ev t.fOuts[i].fRule (h_t.2.2.2.2 _ (List.getElem_mem hlt)).2 (by rw [hx.2]; rfl)) (Evt.bind hsw ?_)))
    simp only [mkB_append, mkB_size, List.length_append, List.length_cons, List.length_nil]
    refine Evt.chk (leB_mk (by omega)) ?_
    rw [w64 hlt (by have := ht.outs4; omega)]
    refine (l3Text_l1 t h_t ht d (i + 1) _ (by omega) (by simp only [List.length_append, List.length_cons, List.length_nil]; omega)).to ?_
    have ed : t.fOuts.drop i = t.fOuts[i] :: t.fOuts.drop (i + 1) := List.drop_eq_getElem_cons hlt
    rw [ed, List.map_cons]
    unfold Lib.joinTail
    rw [List.map_cons, List.flatten_cons]
    unfold outL
    simp only [List.append_assoc, List.cons_append, List.nil_append]
def spec_l3Text_v (t : Tx) : ByteArray := mkB (txL t)
theorem spec_l3Text_ev (t : Tx) (h_t : smTx t) (hpre : (spec_l3Fault_v t != 0) = false) : Evt (fun k => spec_l3Text.f k t) (spec_l3Text_v t) := by
  have ht := tx_ok t hpre
  have c0 : (⟨#[112, 97, 121]⟩ : ByteArray) = mkB [112, 97, 121] := rfl
  have c1 : (⟨#[106, 111, 105, 110, 32]⟩ : ByteArray) = mkB [106, 111, 105, 110, 32] := rfl
  have c2 : (⟨#[108, 101, 97, 118, 101, 32]⟩ : ByteArray) = mkB [108, 101, 97, 118, 101, 32] := rfl
  have hlt : 0 < t.fIns.length := ht.ins1
  have hins4 := ht.ins4
  have houts4 := ht.outs4
  have hx := refL_len (ht.ins _ (List.getElem_mem hlt))
  have hk := ht.kind
  -- what stands ahead
  have key : ∃ a : List UInt8, a.length ≤ 20 ∧ a = (bif t.fKind != 0 then kindW t.fKind ++ [32] ++ dgL t.fMember else kindW t.fKind) ∧ Evt (fun k => (bif (t.fKind != 0) then ((spec_l2Digits.f k t.fMember).bind fun t1698 => (Zk.chk (leB ((gt ([mkB [112, 97, 121], mkB [106, 111, 105, 110, 32], mkB [108, 101, 97, 118, 101, 32]] : List ByteArray) t.fKind).size + t1698.size) 9223372036854775807) (some ((gt ([mkB [112, 97, 121], mkB [106, 111, 105, 110, 32], mkB [108, 101, 97, 118, 101, 32]] : List ByteArray) t.fKind) ++ t1698)))) else some (gt ([mkB [112, 97, 121], mkB [106, 111, 105, 110, 32], mkB [108, 101, 97, 118, 101, 32]] : List ByteArray) t.fKind))) (mkB a) := by
    have h3 : t.fKind = 0 ∨ t.fKind = 1 ∨ t.fKind = 2 := by omega
    rcases h3 with h | h | h
    · refine ⟨[112, 97, 121], by simp, by rw [h]; rfl, ?_⟩
      rw [h]
      exact Evt.f rfl (Evt.self _)
    · have hm := ht.mem (by omega)
      have hd := dg_l3 (n := t.fMember) (by omega)
      refine ⟨[106, 111, 105, 110, 32] ++ dgL t.fMember, by simp; omega, by rw [h]; simp [kindW], ?_⟩
      rw [h]
      refine Evt.t rfl (Evt.bind (spec_l2Digits_ev t.fMember (by omega) (by omega)) ?_)
      show Evt (fun k => Zk.chk (leB ((mkB [106, 111, 105, 110, 32]).size + (mkB (dgL t.fMember)).size) 9223372036854775807) (some (mkB [106, 111, 105, 110, 32] ++ mkB (dgL t.fMember)))) _
      simp only [mkB_append, mkB_size]
      exact Evt.chk (leB_mk (by simp; omega)) (Evt.self _)
    · have hm := ht.mem (by omega)
      have hd := dg_l3 (n := t.fMember) (by omega)
      refine ⟨[108, 101, 97, 118, 101, 32] ++ dgL t.fMember, by simp; omega, by rw [h]; simp [kindW], ?_⟩
      rw [h]
      refine Evt.t rfl (Evt.bind (spec_l2Digits_ev t.fMember (by omega) (by omega)) ?_)
      show Evt (fun k => Zk.chk (leB ((mkB [108, 101, 97, 118, 101, 32]).size + (mkB (dgL t.fMember)).size) 9223372036854775807) (some (mkB [108, 101, 97, 118, 101, 32] ++ mkB (dgL t.fMember)))) _
      simp only [mkB_append, mkB_size]
      exact Evt.chk (leB_mk (by simp; omega)) (Evt.self _)
  obtain ⟨a, hal, hae, he⟩ := key
  have hj := ins_len ht
  have ed : t.fIns = t.fIns[0] :: t.fIns.drop 1 := by simpa using List.drop_eq_getElem_cons hlt
  have ej : Lib.join (t.fIns.map refL) [43] = refL t.fIns[0] ++ Lib.joinTail [43] ((t.fIns.drop 1).map refL) := by
    conv => lhs; rw [ed]
    rw [List.map_cons, Lib.join_cons]
  have e0 := l3Text_ins t ht 0 a [32] hlt rfl (by omega) rfl (l3Text_l0 t ht (t.fIns.length - 1) 1 _ (by omega) (by omega) (by simp only [List.length_append, List.length_cons, List.length_nil]; omega))
  rw [List.append_assoc, ← ej] at e0
  have e1 := l3Text_l1 t h_t ht t.fOuts.length 0 (a ++ [32] ++ Lib.join (t.fIns.map refL) [43]) (by omega) (by simp only [List.length_append, List.length_cons, List.length_nil]; omega)
  unfold spec_l3Text.f
  simp only [c0, c1, c2]
  have hik : idxOk t.fKind ([mkB [112, 97, 121], mkB [106, 111, 105, 110, 32], mkB [108, 101, 97, 118, 101, 32]] : List ByteArray).length = true := by unfold idxOk; simp; omega
  refine Evt.chk hik (Evt.bind he (Evt.bind e0 (Evt.bind e1 (Evt.ret ?_))))
  unfold spec_l3Text_v
  rw [txL_eq, ← hae, List.drop_zero]
def spec_TxText_v (x0 : Tx) : TextResult := (bif ((spec_l3Fault_v x0) != 0) then (⟨(spec_l3Fault_v x0), (⟨#[]⟩ : ByteArray)⟩ : TextResult) else (bif (decide (300 < ((spec_l3Text_v x0).size : Int))) then (⟨2, (⟨#[]⟩ : ByteArray)⟩ : TextResult) else (⟨0, (spec_l3Text_v x0)⟩ : TextResult)))
theorem spec_TxText_ev (x0 : Tx) (h_x0 : smTx x0) : Evt (fun k => spec_TxText.f k x0) (spec_TxText_v x0) :=
  (Evt.bind (spec_l3Fault_ev x0 (h_x0)) (Evt.ifh (fun hc1 => (Evt.self _)) (fun hc1 => (Evt.bind (spec_l3Text_ev x0 (h_x0) (by first | assumption | (simp_all; omega) | (have hf0 := h_x0.2.2.1.1; have hf1 := h_x0.2.2.2.1; simp only [leB, decide_eq_true_eq, List.length_append, List.length_cons, List.length_nil]; omega))) (Evt.ifh (fun hc0 => (Evt.self _)) (fun hc0 => (Evt.self _)))))))
def impl_within_v (x0 : Int) (x1 : Int) (x2 : Int) : Bool := ((decide (x1 ≤ x0)) && (decide (x0 ≤ x2)))
theorem impl_within_ev (x0 : Int) (x1 : Int) (x2 : Int)  : Evt (fun k => impl_within.f k x0 x1 x2) (impl_within_v x0 x1 x2) :=
  (Evt.self _)
def impl_isKey_v (x0 : Int) : Bool := (impl_within_v x0 1 999)
theorem impl_isKey_ev (x0 : Int)  : Evt (fun k => impl_isKey.f k x0) (impl_isKey_v x0) :=
  (Evt.bind (impl_within_ev x0 1 999) (Evt.self _))
def impl_TxFault_1_v (x0 : Int) : Bool := ((decide (x0 < 1)) || (decide (4 < x0)))
theorem impl_TxFault_1_ev (x0 : Int)  : Evt (fun k => impl_TxFault_1.f k x0) (impl_TxFault_1_v x0) :=
  (Evt.self _)
def impl_isId_v (x0 : Int) : Bool := (impl_within_v x0 1 60)
theorem impl_isId_ev (x0 : Int)  : Evt (fun k => impl_isId.f k x0) (impl_isId_v x0) :=
  (Evt.bind (impl_within_ev x0 1 60) (Evt.self _))
def impl_isRef_v (x0 : Ref) : Bool := ((impl_isId_v x0.fTx) && (bif (impl_isId_v x0.fTx) then (impl_within_v x0.fAt 0 3) else default))
theorem impl_isRef_ev (x0 : Ref)  : Evt (fun k => impl_isRef.f k x0) (impl_isRef_v x0) :=
  (Evt.bind (impl_isId_ev x0.fTx) (Evt.bind (Evt.ifh (fun _ => (impl_within_ev x0.fAt 0 3)) (fun _ => Evt.self _)) (Evt.self _)))
def slices_Index_impl_Ref_v (x0 : List Ref) (x1 : Ref) : Int := (onO ((List.range' 0 (x0.length - 0)).findSome? (fun (i0 : Nat) => (bif ((x1.fTx == ((gt x0 (i0 : Int)).fTx)) && (x1.fAt == ((gt x0 (i0 : Int)).fAt))) then (some (i0 : Int)) else none))) (fun r => r) (-1))
theorem slices_Index_impl_Ref_ev (x0 : List Ref) (x1 : Ref) (h_x0 : (Lm smRef) x0) : Evt (fun k => slices_Index_impl_Ref.f k x0 x1) (slices_Index_impl_Ref_v x0 x1) :=
  (Evt.loop (r' := fun r => r) (Evt.srch (L := (fun k i => slices_Index_impl_Ref.l0 x0 x1 k i)) 0 x0.length (by have := h_x0; first | (have := this.1; omega) | omega) (fun (i0 : Nat) => (bif ((x1.fTx == ((gt x0 (i0 : Int)).fTx)) && (x1.fAt == ((gt x0 (i0 : Int)).fAt))) then (some (i0 : Int)) else none)) (fun i0 hs2 hi2 => by
  have hbn : x0.length ≤ 9223372036854775807 := (by have := h_x0; first | (have := this.1; omega) | omega)
  simp only [slices_Index_impl_Ref.l0_s]
  exact Evt_t2 (int_lt hi2) (StE.chk (by first | exact idx_ok (by omega) | exact idx_ok (by have hq := len_eq (by assumption); omega) | exact idx_found (show (0 : Int) ≤ (i0 : Int) by simp_all) | exact cut_ok (by omega) | exact or_ok (idx_ok (by omega)) | (refine or1 (fun hz => pre_ok (by simp at hz; omega) (by omega) (by omega))) | exact pre_ok (by omega) (by omega) (by omega) | (simp_all [idxOk, cutOk, leB]; done) | (simp_all [idxOk, cutOk, leB]; omega) | (simp [idxOk, cutOk, leB] at *; omega) | (have hf0 := h_x0.1; simp only [leB, decide_eq_true_eq, List.length_append, List.length_cons, List.length_nil]; omega)) (StE.ifh (fun hc1 => (StE.ret _)) (fun hc1 => StE.next)))) (fun j hj => by
  simp only [slices_Index_impl_Ref.l0_s]
  exact Evt.f (ge_lt hj) (Evt.self _))) (fun _ => rfl) (Evt.self _))
def slices_Contains_impl_Ref_v (x0 : List Ref) (x1 : Ref) : Bool := (decide (0 ≤ (slices_Index_impl_Ref_v x0 x1)))
theorem slices_Contains_impl_Ref_ev (x0 : List Ref) (x1 : Ref) (h_x0 : (Lm smRef) x0) : Evt (fun k => slices_Contains_impl_Ref.f k x0 x1) (slices_Contains_impl_Ref_v x0 x1) :=
  (Evt.bind (slices_Index_impl_Ref_ev x0 x1 (h_x0)) (Evt.self _))
theorem slices_Contains_impl_Ref_any (x0 : List Ref) (x1 : Ref) : slices_Contains_impl_Ref_v x0 x1 = (List.range' 0 (x0.length - 0)).any (fun (i0 : Nat) => ((x1.fTx == ((gt x0 (i0 : Int)).fTx)) && (x1.fAt == ((gt x0 (i0 : Int)).fAt)))) := idx_any _ _
def impl_areKeys_1_v (x0 : Int) : Bool := (!(impl_isKey_v x0))
theorem impl_areKeys_1_ev (x0 : Int)  : Evt (fun k => impl_areKeys_1.f k x0) (impl_areKeys_1_v x0) :=
  (Evt.bind (impl_isKey_ev x0) (Evt.self _))
def slices_IndexFunc_int64_v (x0 : List Int) : Int := (onO ((List.range' 0 (x0.length - 0)).findSome? (fun (i0 : Nat) => (bif (impl_areKeys_1_v (gt x0 (i0 : Int))) then (some (i0 : Int)) else none))) (fun r => r) (-1))
theorem slices_IndexFunc_int64_ev (x0 : List Int) (h_x0 : (Lm tr) x0) : Evt (fun k => slices_IndexFunc_int64.f k x0) (slices_IndexFunc_int64_v x0) :=
  (Evt.loop (r' := fun r => r) (Evt.srch (L := (fun k i => slices_IndexFunc_int64.l0 x0 k i)) 0 x0.length (by have := h_x0; first | (have := this.1; omega) | omega) (fun (i0 : Nat) => (bif (impl_areKeys_1_v (gt x0 (i0 : Int))) then (some (i0 : Int)) else none)) (fun i0 hs2 hi2 => by
  have hbn : x0.length ≤ 9223372036854775807 := (by have := h_x0; first | (have := this.1; omega) | omega)
  simp only [slices_IndexFunc_int64.l0_s]
  exact Evt_t2 (int_lt hi2) (StE.chk (by first | exact idx_ok (by omega) | exact idx_ok (by have hq := len_eq (by assumption); omega) | exact idx_found (show (0 : Int) ≤ (i0 : Int) by simp_all) | exact cut_ok (by omega) | exact or_ok (idx_ok (by omega)) | (refine or1 (fun hz => pre_ok (by simp at hz; omega) (by omega) (by omega))) | exact pre_ok (by omega) (by omega) (by omega) | (simp_all [idxOk, cutOk, leB]; done) | (simp_all [idxOk, cutOk, leB]; omega) | (simp [idxOk, cutOk, leB] at *; omega) | (have hf0 := h_x0.1; simp only [leB, decide_eq_true_eq, List.length_append, List.length_cons, List.length_nil]; omega)) (StE.bind (impl_areKeys_1_ev (gt x0 (i0 : Int))) (StE.ifh (fun hc1 => (StE.ret _)) (fun hc1 => StE.next))))) (fun j hj => by
  simp only [slices_IndexFunc_int64.l0_s]
  exact Evt.f (ge_lt hj) (Evt.self _))) (fun _ => rfl) (Evt.self _))
def slices_ContainsFunc_int64_v (x0 : List Int) : Bool := (decide (0 ≤ (slices_IndexFunc_int64_v x0)))
theorem slices_ContainsFunc_int64_ev (x0 : List Int) (h_x0 : (Lm tr) x0) : Evt (fun k => slices_ContainsFunc_int64.f k x0) (slices_ContainsFunc_int64_v x0) :=
  (Evt.bind (slices_IndexFunc_int64_ev x0 (h_x0)) (Evt.self _))
theorem slices_ContainsFunc_int64_any (x0 : List Int) : slices_ContainsFunc_int64_v x0 = (List.range' 0 (x0.length - 0)).any (fun (i0 : Nat) => (impl_areKeys_1_v (gt x0 (i0 : Int)))) := idx_any _ _
def impl_areKeys_v (x0 : List Int) : Bool := (!(slices_ContainsFunc_int64_v x0))
theorem impl_areKeys_ev (x0 : List Int) (h_x0 : (Lm tr) x0) : Evt (fun k => impl_areKeys.f k x0) (impl_areKeys_v x0) :=
  (Evt.bind (slices_ContainsFunc_int64_ev x0 (h_x0)) (Evt.self _))
def impl_isHeight_v (x0 : Int) : Bool := (impl_within_v x0 0 999)
theorem impl_isHeight_ev (x0 : Int)  : Evt (fun k => impl_isHeight.f k x0) (impl_isHeight_v x0) :=
  (Evt.bind (impl_within_ev x0 0 999) (Evt.self _))
def impl_isRising_v (x0 : List Int) : Bool := (onO ((List.range' 1 (x0.length - 1)).findSome? (fun (i0 : Nat) => (bif (decide ((gt x0 (i0 : Int)) ≤ (gt x0 (wrap64 ((i0 : Int) - 1))))) then (some false) else none))) (fun r => r) true)
theorem impl_isRising_ev (x0 : List Int) (h_x0 : (Lm tr) x0) : Evt (fun k => impl_isRising.f k x0) (impl_isRising_v x0) :=
  (Evt.loop (r' := fun r => r) (Evt.srch (L := (fun k i => impl_isRising.l0 x0 k i)) 1 x0.length (by have := h_x0; first | (have := this.1; omega) | omega) (fun (i0 : Nat) => (bif (decide ((gt x0 (i0 : Int)) ≤ (gt x0 (wrap64 ((i0 : Int) - 1))))) then (some false) else none)) (fun i0 hs2 hi2 => by
  have hbn : x0.length ≤ 9223372036854775807 := (by have := h_x0; first | (have := this.1; omega) | omega)
  simp only [impl_isRising.l0_s]
  exact Evt_t2 (int_lt hi2) (StE.chk (by first | exact idx_ok (by omega) | exact idx_ok (by have hq := len_eq (by assumption); omega) | exact idx_found (show (0 : Int) ≤ (i0 : Int) by simp_all) | exact cut_ok (by omega) | exact or_ok (idx_ok (by omega)) | (refine or1 (fun hz => pre_ok (by simp at hz; omega) (by omega) (by omega))) | exact pre_ok (by omega) (by omega) (by omega) | (simp_all [idxOk, cutOk, leB]; done) | (simp_all [idxOk, cutOk, leB]; omega) | (simp [idxOk, cutOk, leB] at *; omega) | (have hf0 := h_x0.1; simp only [leB, decide_eq_true_eq, List.length_append, List.length_cons, List.length_nil]; omega)) (StE.chk (by first | exact idx_ok (by omega) | exact idx_ok (by have hq := len_eq (by assumption); omega) | exact idx_found (show (0 : Int) ≤ (wrap64 ((i0 : Int) - 1)) by simp_all) | exact cut_ok (by omega) | exact or_ok (idx_ok (by omega)) | (refine or1 (fun hz => pre_ok (by simp at hz; omega) (by omega) (by omega))) | exact pre_ok (by omega) (by omega) (by omega) | (simp_all [idxOk, cutOk, leB]; done) | (simp_all [idxOk, cutOk, leB]; omega) | (simp [idxOk, cutOk, leB] at *; omega) | (have hf0 := h_x0.1; simp only [leB, decide_eq_true_eq, List.length_append, List.length_cons, List.length_nil]; omega)) (StE.ifh (fun hc1 => (StE.ret _)) (fun hc1 => StE.next))))) (fun j hj => by
  simp only [impl_isRising.l0_s]
  exact Evt.f (ge_lt hj) (Evt.self _))) (fun _ => rfl) (Evt.self _))
def impl_RuleFault_v (x0 : Rule) : Int := (bif !(impl_within_v (x0.fKeys.length : Int) 1 3) then 2 else (bif (((!(impl_areKeys_v x0.fKeys)) || (!(bif (!(!(impl_areKeys_v x0.fKeys))) then (impl_within_v x0.fNeed 1 (x0.fKeys.length : Int)) else default))) || (!(bif (!((!(impl_areKeys_v x0.fKeys)) || (!(bif (!(!(impl_areKeys_v x0.fKeys))) then (impl_within_v x0.fNeed 1 (x0.fKeys.length : Int)) else default)))) then (impl_isHeight_v x0.fAfter) else default))) then 3 else (bif !(impl_isRising_v x0.fKeys) then 1 else 0)))
theorem impl_RuleFault_ev (x0 : Rule) (h_x0 : smRule x0) : Evt (fun k => impl_RuleFault.f k x0) (impl_RuleFault_v x0) :=
  (Evt.bind (impl_within_ev (x0.fKeys.length : Int) 1 3) (Evt.ifh (fun hc2 => (Evt.self _)) (fun hc2 => (Evt.bind (impl_areKeys_ev x0.fKeys (h_x0.1)) (Evt.bind (Evt.ifh (fun _ => (impl_within_ev x0.fNeed 1 (x0.fKeys.length : Int))) (fun _ => Evt.self _)) (Evt.bind (Evt.ifh (fun _ => (impl_isHeight_ev x0.fAfter)) (fun _ => Evt.self _)) (Evt.ifh (fun hc1 => (Evt.self _)) (fun hc1 => (Evt.bind (impl_isRising_ev x0.fKeys (h_x0.1)) (Evt.ifh (fun hc0 => (Evt.self _)) (fun hc0 => (Evt.self _))))))))))))
theorem ruleFault_same (x0 : Rule) : impl_RuleFault_v x0 = spec_l2Fault_v x0 := by
  simp only [impl_RuleFault_v, spec_l2Fault_v, impl_areKeys_v, slices_ContainsFunc_int64_any, impl_areKeys_1_v, impl_isKey_v, spec_l1Key_v, impl_within_v, spec_l1In_v, impl_isHeight_v, spec_l2Height_v, impl_isRising_v, found_any]
  generalize (List.range' 0 (x0.fKeys.length - 0)).any _ = a
  generalize (List.range' 1 (x0.fKeys.length - 1)).any _ = b
  generalize (decide (1 ≤ x0.fNeed) && decide (x0.fNeed ≤ (x0.fKeys.length : Int))) = c
  generalize (decide (0 ≤ x0.fAfter) && decide (x0.fAfter ≤ 999)) = d
  generalize (decide (1 ≤ (x0.fKeys.length : Int)) && decide ((x0.fKeys.length : Int) ≤ 3)) = e
  cases a <;> cases b <;> cases c <;> cases d <;> cases e <;> rfl
def impl_outFault_v (x0 : Out) : Int := (bif !(impl_within_v x0.fValue 1 1000000) then 3 else (impl_RuleFault_v x0.fRule))
theorem impl_outFault_ev (x0 : Out) (h_x0 : smOut x0) : Evt (fun k => impl_outFault.f k x0) (impl_outFault_v x0) :=
  (Evt.bind (impl_within_ev x0.fValue 1 1000000) (Evt.ifh (fun hc0 => (Evt.self _)) (fun hc0 => (Evt.bind (impl_RuleFault_ev x0.fRule (h_x0.2)) (Evt.self _)))))
def impl_TxFault_v (x0 : Tx) : Int := (bif ((!(impl_within_v x0.fKind 0 2)) || ((x0.fKind == 0) != (x0.fMember == 0))) then 1 else (bif ((x0.fMember != 0) && (!(bif (x0.fMember != 0) then (impl_isKey_v x0.fMember) else default))) then 3 else (bif ((impl_TxFault_1_v (x0.fIns.length : Int)) || (bif (!(impl_TxFault_1_v (x0.fIns.length : Int))) then (impl_TxFault_1_v (x0.fOuts.length : Int)) else default)) then 2 else (onO ((List.range' 0 (x0.fIns.length - 0)).findSome? (fun (i0 : Nat) => (bif !(impl_isRef_v (gt x0.fIns (i0 : Int))) then (some 3) else (bif (slices_Contains_impl_Ref_v (x0.fIns.take ((i0 : Int)).toNat) (gt x0.fIns (i0 : Int))) then (some 7) else none)))) (fun r => r) (onO ((List.range' 0 (x0.fOuts.length - 0)).findSome? (fun (i3 : Nat) => (bif ((impl_outFault_v (gt x0.fOuts (i3 : Int))) != 0) then (some (impl_outFault_v (gt x0.fOuts (i3 : Int)))) else none))) (fun r => r) (bif ((x0.fKind == 1) && (decide (((gt x0.fOuts (0 : Int)).fValue) < 100))) then 8 else 0))))))
theorem impl_TxFault_ev (x0 : Tx) (h_x0 : smTx x0) : Evt (fun k => impl_TxFault.f k x0) (impl_TxFault_v x0) :=
  (Evt.bind (impl_within_ev x0.fKind 0 2) (Evt.ifh (fun hc8 => (Evt.self _)) (fun hc8 => (Evt.bind (Evt.ifh (fun _ => (impl_isKey_ev x0.fMember)) (fun _ => Evt.self _)) (Evt.ifh (fun hc7 => (Evt.self _)) (fun hc7 => (Evt.bind (impl_TxFault_1_ev (x0.fIns.length : Int)) (Evt.bind (Evt.ifh (fun _ => (impl_TxFault_1_ev (x0.fOuts.length : Int))) (fun _ => Evt.self _)) (Evt.ifh (fun hc6 => (Evt.self _)) (fun hc6 => (Evt.loop (r' := fun r => r) (Evt.srch (L := (fun k i => impl_TxFault.l0 x0 k i)) 0 x0.fIns.length (by have := h_x0.2.2.1; first | (have := this.1; omega) | omega) (fun (i0 : Nat) => (bif !(impl_isRef_v (gt x0.fIns (i0 : Int))) then (some 3) else (bif (slices_Contains_impl_Ref_v (x0.fIns.take ((i0 : Int)).toNat) (gt x0.fIns (i0 : Int))) then (some 7) else none))) (fun i0 hs3 hi3 => by
  have hbn : x0.fIns.length ≤ 9223372036854775807 := (by have := h_x0.2.2.1; first | (have := this.1; omega) | omega)
  simp only [impl_TxFault.l0_s]
  exact Evt_t2 (int_lt hi3) (StE.chk (by first | exact idx_ok (by omega) | exact idx_ok (by have hq := len_eq (by assumption); omega) | exact idx_found (show (0 : Int) ≤ (i0 : Int) by simp_all) | exact cut_ok (by omega) | exact or_ok (idx_ok (by omega)) | (refine or1 (fun hz => pre_ok (by simp at hz; omega) (by omega) (by omega))) | exact pre_ok (by omega) (by omega) (by omega) | (simp_all [idxOk, cutOk, leB]; done) | (simp_all [idxOk, cutOk, leB]; omega) | (simp [idxOk, cutOk, leB] at *; omega) | (simp_all [idxOk, impl_TxFault_1_v]; omega) | (have hf0 := h_x0.2.2.1.1; have hf1 := h_x0.2.2.2.1; simp only [leB, decide_eq_true_eq, List.length_append, List.length_cons, List.length_nil]; omega)) (StE.bind (impl_isRef_ev (gt x0.fIns (i0 : Int))) (StE.ifh (fun hc2 => (StE.ret _)) (fun hc2 => (StE.chk (by first | exact idx_ok (by omega) | exact idx_ok (by have hq := len_eq (by assumption); omega) | exact idx_found (by simp_all) | exact cut_ok (by omega) | exact or_ok (idx_ok (by omega)) | (refine or1 (fun hz => pre_ok (by simp at hz; omega) (by omega) (by omega))) | exact pre_ok (by omega) (by omega) (by omega) | (simp_all [idxOk, cutOk, leB]; done) | (simp_all [idxOk, cutOk, leB]; omega) | (simp [idxOk, cutOk, leB] at *; omega) | (simp_all [idxOk, impl_TxFault_1_v]; omega) | (have hf0 := h_x0.2.2.1.1; have hf1 := h_x0.2.2.2.1; simp only [leB, decide_eq_true_eq, List.length_append, List.length_cons, List.length_nil]; omega)) (StE.bind (slices_Contains_impl_Ref_ev (x0.fIns.take ((i0 : Int)).toNat) (gt x0.fIns (i0 : Int)) ((Lm_take h_x0.2.2.1))) (StE.ifh (fun hc1 => (StE.ret _)) (fun hc1 => StE.next))))))))) (fun j hj => by
  simp only [impl_TxFault.l0_s]
  exact Evt.f (ge_lt hj) (Evt.self _))) (fun _ => rfl) (Evt.loop (r' := fun r => r) (Evt.srch (L := (fun k i => impl_TxFault.l1 x0 k i)) 0 x0.fOuts.length (by have := h_x0.2.2.2; first | (have := this.1; omega) | omega) (fun (i3 : Nat) => (bif ((impl_outFault_v (gt x0.fOuts (i3 : Int))) != 0) then (some (impl_outFault_v (gt x0.fOuts (i3 : Int)))) else none)) (fun i3 hs5 hi5 => by
  have hbn : x0.fOuts.length ≤ 9223372036854775807 := (by have := h_x0.2.2.2; first | (have := this.1; omega) | omega)
  simp only [impl_TxFault.l1_s]
  exact Evt_t2 (int_lt hi5) (StE.chk (by first | exact idx_ok (by omega) | exact idx_ok (by have hq := len_eq (by assumption); omega) | exact idx_found (show (0 : Int) ≤ (i3 : Int) by simp_all) | exact cut_ok (by omega) | exact or_ok (idx_ok (by omega)) | (refine or1 (fun hz => pre_ok (by simp at hz; omega) (by omega) (by omega))) | exact pre_ok (by omega) (by omega) (by omega) | (simp_all [idxOk, cutOk, leB]; done) | (simp_all [idxOk, cutOk, leB]; omega) | (simp [idxOk, cutOk, leB] at *; omega) | (simp_all [idxOk, impl_TxFault_1_v]; omega) | (have hf0 := h_x0.2.2.1.1; have hf1 := h_x0.2.2.2.1; simp only [leB, decide_eq_true_eq, List.length_append, List.length_cons, List.length_nil]; omega)) (StE.bind (impl_outFault_ev (gt x0.fOuts (i3 : Int)) ((h_x0.2.2.2).2 _ (gt_mem (by first | omega | (have hq := len_eq (by assumption); omega) | (simp_all [idxOk, impl_TxFault_1_v]; omega) | (have hf0 := h_x0.2.2.1.1; have hf1 := h_x0.2.2.2.1; simp only [leB, decide_eq_true_eq, List.length_append, List.length_cons, List.length_nil]; omega))))) (StE.ifh (fun hc4 => (StE.ret _)) (fun hc4 => StE.next))))) (fun j hj => by
  simp only [impl_TxFault.l1_s]
  exact Evt.f (ge_lt hj) (Evt.self _))) (fun _ => rfl) (Evt.chk (by first | exact idx_ok (by omega) | exact idx_ok (by have hq := len_eq (by assumption); omega) | exact idx_found (by simp_all) | exact cut_ok (by omega) | exact or_ok (idx_ok (by omega)) | (refine or1 (fun hz => pre_ok (by simp at hz; omega) (by omega) (by omega))) | exact pre_ok (by omega) (by omega) (by omega) | (simp_all [idxOk, cutOk, leB]; done) | (simp_all [idxOk, cutOk, leB]; omega) | (simp [idxOk, cutOk, leB] at *; omega) | (simp_all [idxOk, impl_TxFault_1_v]; omega) | (have hf0 := h_x0.2.2.1.1; have hf1 := h_x0.2.2.2.1; simp only [leB, decide_eq_true_eq, List.length_append, List.length_cons, List.length_nil]; omega)) (Evt.ifh (fun hc5 => (Evt.self _)) (fun hc5 => (Evt.self _))))))))))))))))
theorem refs_same (r : Ref) : impl_isRef_v r = spec_l3Ref_v r := by simp only [impl_isRef_v, spec_l3Ref_v, impl_isId_v, impl_within_v, spec_l1In_v]
theorem contains_ref (xs : List Ref) (x : Ref) : slices_Contains_impl_Ref_v xs x = spec_l3Among_v xs x := by
  have e : (fun i : Nat => (x.fTx == (gt xs (i : Int)).fTx) && (x.fAt == (gt xs (i : Int)).fAt)) = fun i : Nat => ((gt xs (i : Int)).fTx == x.fTx) && ((gt xs (i : Int)).fAt == x.fAt) := by funext i; rw [BEq.comm (a := x.fTx), BEq.comm (a := x.fAt)]
  rw [slices_Contains_impl_Ref_any, e]; simp only [spec_l3Among_v, found_any, bifb]
theorem txFault_same (x0 : Tx) : impl_TxFault_v x0 = spec_l3Fault_v x0 := by
  have e1 : ∀ n : Int, impl_TxFault_1_v n = !(spec_l1In_v n 1 4) := fun n => rng1
  have e2 : ∀ x : Out, (bif ((impl_outFault_v x) != 0) then (some (impl_outFault_v x)) else none) = (bif !(spec_l1In_v x.fValue 1 1000000) then (some 3) else (bif ((spec_l2Fault_v x.fRule) != 0) then (some (spec_l2Fault_v x.fRule)) else none)) := by
    intro x
    have e : impl_outFault_v x = bif !(spec_l1In_v x.fValue 1 1000000) then 3 else spec_l2Fault_v x.fRule := by simp only [impl_outFault_v, ruleFault_same, impl_within_v, spec_l1In_v]
    rw [e]
    cases spec_l1In_v x.fValue 1 1000000 <;> rfl
  have e3 : ∀ n a b : Int, impl_within_v n a b = spec_l1In_v n a b := fun _ _ _ => rfl
  have e4 : ∀ n : Int, impl_isKey_v n = spec_l1Key_v n := fun _ => rfl
  simp only [impl_TxFault_v, spec_l3Fault_v, spec_l3Outs_v, e1, e2, e3, e4, refs_same, contains_ref]
  simp only [bne]
  generalize spec_l1In_v (x0.fIns.length : Int) 1 4 = a
  generalize spec_l1In_v (x0.fOuts.length : Int) 1 4 = b
  generalize spec_l1In_v x0.fKind 0 2 = c
  generalize spec_l1Key_v x0.fMember = d
  generalize (x0.fKind == 0) = e
  generalize (x0.fMember == 0) = f
  cases a <;> cases b <;> cases c <;> cases d <;> cases e <;> cases f <;> rfl
def impl_kindWords_v  : (List ByteArray) := ([(⟨#[112, 97, 121]⟩ : ByteArray), (⟨#[106, 111, 105, 110]⟩ : ByteArray), (⟨#[108, 101, 97, 118, 101]⟩ : ByteArray)] : List ByteArray)
theorem impl_kindWords_ev   : Evt (fun k => impl_kindWords.f k ) (impl_kindWords_v ) :=
  (Evt.self _)
def strconv_FormatInt_v (x0 x1 : Int) : ByteArray := mkB (dgL x0)
theorem strconv_FormatInt_ev (n : Int) (h0 : 0 ≤ n) (h1 : n ≤ 1000000) : Evt (fun k => strconv_FormatInt.f k n 10) (mkB (dgL n)) := by
  refine Evt.chk ?_ (Evt.ret (itoa_dg n h0))
  have e1 : decide ((-9223372036854775808 : Int) ≤ n) = true := decide_eq_true (by omega)
  have e2 : decide (n ≤ (9223372036854775807 : Int)) = true := decide_eq_true (by omega)
  rw [e1, e2]; rfl
theorem impl_dec_ev (n : Int) (h0 : 0 ≤ n) (h1 : n ≤ 1000000) : Evt (fun k => impl_dec.f k n) (mkB (dgL n)) := Evt.bind (strconv_FormatInt_ev n h0 h1) (Evt.self _)
theorem strings_Join_ev (xs : List (List UInt8)) (sep : List UInt8) (hn : xs.length ≤ 1000000) (hl : (Lib.join xs sep).length ≤ 1000000) : Evt (fun k => strings_Join.f k (xs.map mkB) (mkB sep)) (mkB (Lib.join xs sep)) := by
  have e1 : (xs.map mkB).map (·.data.toList) = xs := by rw [List.map_map]; simp [mkB, Function.comp_def]
  have e2 : (mkB sep).data.toList = sep := by simp [mkB]
  unfold strings_Join.f
  rw [e1, e2]
  refine Evt.chk ?_ (Evt.self _)
  rw [Bool.and_eq_true]
  exact ⟨decide_eq_true (by rw [List.length_map]; omega), decide_eq_true (by omega)⟩
theorem impl_joined_ev (xs : List Int) (sep : List UInt8) (hn : xs.length ≤ 1000) (hk : ∀ x ∈ xs, 0 ≤ x ∧ x ≤ 999) (hl : (Lib.join (xs.map dgL) sep).length ≤ 1000000) : Evt (fun k => impl_joined.f k xs (mkB sep)) (mkB (Lib.join (xs.map dgL) sep)) := by
  have h1 := Evt.gatherL (L := fun k ac i => impl_joined.l0 xs k ac i) xs.length (by omega) (fun ac i => ac ++ [mkB (dgL (gt xs (i : Int)))]) (fun i hi a ha => by simp; omega) (fun i hi a ha o hg => by
    have hx := hk _ (gt_mem hi)
    simp only [impl_joined.l0_s]
    refine Evt.t (int_lt hi) (Evt.chk (idx_ok hi) (Evt.bind (impl_dec_ev (gt xs (i : Int)) (by omega) (by omega)) (Evt.chk ?_ hg)))
    refine decide_eq_true ?_
    simp only [List.length_cons, List.length_nil]; omega) (fun i a hi => by
    simp only [impl_joined.l0_s]
    exact Evt.f (ge_lt hi) (Evt.self _))
  have e := range_foldl xs (fun (ac : List ByteArray) x => ac ++ [mkB (dgL x)]) []
  have e2 := fold_map (fun x => mkB (dgL x)) xs []
  have h2 : Evt (fun k => impl_joined.l0 xs k [] 0) ((xs.map dgL).map mkB) := h1.to (e.trans (e2.trans (by rw [List.nil_append, List.map_map]; rfl)))
  refine Evt.bind h2 (Evt.bind (strings_Join_ev (xs.map dgL) sep (by rw [List.length_map]; omega) hl) (Evt.self _))
theorem impl_ruleText_ev (r : Rule) (bl : List UInt8) (hb : bl.length ≤ 8) (hr : RuleOK r) : Evt (fun k => impl_ruleText.f k r (mkB bl)) (mkB (ruleL r bl)) := by
  have hj := join3 r.fKeys hr.n1 hr.n3 hr.key
  have hd := dg3 r.fNeed (by have := hr.need; omega) (by have := hr.need; omega)
  have hf := dg3 r.fAfter hr.after.1 hr.after.2
  have c1 : (⟨#[111, 102]⟩ : ByteArray) = mkB [111, 102] := rfl
  have c2 : (⟨#[44]⟩ : ByteArray) = mkB [44] := rfl
  have c3 : (⟨#[97, 102, 116, 101, 114]⟩ : ByteArray) = mkB [97, 102, 116, 101, 114] := rfl
  unfold impl_ruleText.f
  simp only [c1, c2, c3]
  refine Evt.bind (impl_dec_ev r.fNeed (by have := hr.need; omega) (by have := hr.need; omega)) ?_
  simp only [mkB_append, mkB_size, List.length_append, List.length_cons, List.length_nil]
  refine Evt.chk (leB_mk (by omega)) (Evt.chk (leB_mk (by omega)) (Evt.chk (leB_mk (by omega)) (Evt.bind (impl_joined_ev r.fKeys [44] (by have := hr.n3; omega) (fun x hx => by have := hr.key x hx; omega) (by omega)) ?_)))
  simp only [mkB_append, mkB_size, List.length_append, List.length_cons, List.length_nil]
  refine Evt.chk (leB_mk (by omega)) ?_
  unfold ruleL
  cases ha : r.fAfter != 0
  · refine Evt.f rfl (Evt.ret ?_)
    simp [List.append_assoc]
  · refine Evt.t rfl (Evt.chk (leB_mk (by omega)) (Evt.chk (leB_mk (by omega)) (Evt.bind (impl_dec_ev r.fAfter hr.after.1 (by have := hr.after.2; omega)) ?_)))
    simp only [mkB_append, mkB_size, List.length_append, List.length_cons, List.length_nil]
    refine Evt.chk (leB_mk (by omega)) (Evt.chk (leB_mk (by omega)) (Evt.ret ?_))
    simp [List.append_assoc]
theorem txText_l0 (t : Tx) (ht : TxOK t) : ∀ (d i : Nat) (acc : List ByteArray), i + d = t.fIns.length → acc.length ≤ i → Evt (fun k => impl_txText.l0 t k acc (i : Int)) (acc ++ ((t.fIns.drop i).map refL).map mkB)
  | 0, i, acc, hi, ha => by
    rw [List.drop_of_length_le (by omega)]
    refine Evt.s ?_
    simp only [impl_txText.l0_s]
    exact Evt.f (ge_lt (by omega)) (Evt.ret (by simp))
  | d + 1, i, acc, hi, ha => by
    have hlt : i < t.fIns.length := by omega
    have h4 := ht.ins4
    have hx := ht.ins _ (List.getElem_mem hlt)
    have hg : gt t.fIns (i : Int) = t.fIns[i] := gt_eq (by simpa using hlt)
    have hd1 := dg_l2 (n := t.fIns[i].fTx) (by omega)
    have hd2 := dg_l1 (n := t.fIns[i].fAt) (by omega)
    have c58 : (⟨#[58]⟩ : ByteArray) = mkB [58] := rfl
    refine Evt.s ?_
    simp only [impl_txText.l0_s, hg, c58]
    refine Evt.t (int_lt hlt) (Evt.chk (idx_ok hlt) (Evt.bind (impl_dec_ev t.fIns[i].fTx (by omega) (by omega)) ?_))
    simp only [mkB_append, mkB_size, List.length_append, List.length_cons, List.length_nil]
    refine Evt.chk (leB_mk (by omega)) (Evt.bind (impl_dec_ev t.fIns[i].fAt (by omega) (by omega)) ?_)
    simp only [mkB_append, mkB_size, List.length_append, List.length_cons, List.length_nil]
    refine Evt.chk (leB_mk (by omega)) (Evt.chk (leB_mk2 (by omega)) ?_)
    rw [w64 hlt (by omega)]
    refine (txText_l0 t ht d (i + 1) _ (by omega) (by simp; omega)).to ?_
    have ed : t.fIns.drop i = t.fIns[i] :: t.fIns.drop (i + 1) := List.drop_eq_getElem_cons hlt
    rw [ed, List.map_cons, List.map_cons]
    unfold refL
    simp
theorem txText_l1 (t : Tx) (ht : TxOK t) : ∀ (d i : Nat) (acc : List ByteArray), i + d = t.fOuts.length → acc.length ≤ i + 3 → Evt (fun k => impl_txText.l1 t k acc (i : Int)) (acc ++ ((t.fOuts.drop i).map outL).map mkB)
  | 0, i, acc, hi, ha => by
    rw [List.drop_of_length_le (by omega)]
    refine Evt.s ?_
    simp only [impl_txText.l1_s]
    exact Evt.f (ge_lt (by omega)) (Evt.ret (by simp))
  | d + 1, i, acc, hi, ha => by
    have hlt : i < t.fOuts.length := by omega
    have h4 := ht.outs4
    have hx := ht.outs _ (List.getElem_mem hlt)
    have hg : gt t.fOuts (i : Int) = t.fOuts[i] := gt_eq (by simpa using hlt)
    have hr := rule_ok t.fOuts[i].fRule (by rw [hx.2]; rfl)
    have hd1 := dg_l7 (n := t.fOuts[i].fValue) (by omega)
    have hrl2 := ruleL_len t.fOuts[i].fRule 95 hr
    have c61 : (⟨#[61]⟩ : ByteArray) = mkB [61] := rfl
    have c95 : (⟨#[95]⟩ : ByteArray) = mkB [95] := rfl
    refine Evt.s ?_
    simp only [impl_txText.l1_s, hg, c61, c95]
    refine Evt.t (int_lt hlt) (Evt.chk (idx_ok hlt) (Evt.bind (impl_dec_ev t.fOuts[i].fValue (by omega) (by omega)) ?_))
    simp only [mkB_append, mkB_size, List.length_append, List.length_cons, List.length_nil]
    refine Evt.chk (leB_mk (by omega)) (Evt.bind (impl_ruleText_ev t.fOuts[i].fRule [95] (by simp) hr) ?_)
    simp only [mkB_append, mkB_size, List.length_append, List.length_cons, List.length_nil]
    refine Evt.chk (leB_mk (by omega)) (Evt.chk (leB_mk2 (by omega)) ?_)
    rw [w64 hlt (by omega)]
    refine (txText_l1 t ht d (i + 1) _ (by omega) (by simp; omega)).to ?_
    have ed : t.fOuts.drop i = t.fOuts[i] :: t.fOuts.drop (i + 1) := List.drop_eq_getElem_cons hlt
    rw [ed, List.map_cons, List.map_cons]
    unfold outL
    simp
def txText_v (t : Tx) : ByteArray × Int := bif decide (300 < ((txL t).length : Int)) then ((⟨#[]⟩ : ByteArray), 2) else (mkB (txL t), 0)
theorem impl_txText_ev (t : Tx) (ht : TxOK t) : Evt (fun k => impl_txText.f k t) (txText_v t) := by
  have hk := ht.kind
  have c43 : (⟨#[43]⟩ : ByteArray) = mkB [43] := rfl
  have c32 : (⟨#[32]⟩ : ByteArray) = mkB [32] := rfl
  have hins4 := ht.ins4
  have houts4 := ht.outs4
  have hj := ins_len ht
  have htl := txL_len ht
  obtain ⟨hw1, hw2⟩ := txWs_len ht
  have hg : gt ([(⟨#[112, 97, 121]⟩ : ByteArray), (⟨#[106, 111, 105, 110]⟩ : ByteArray), (⟨#[108, 101, 97, 118, 101]⟩ : ByteArray)] : List ByteArray) t.fKind = mkB (kindW t.fKind) := by
    have h3 : t.fKind = 0 ∨ t.fKind = 1 ∨ t.fKind = 2 := by omega
    rcases h3 with h | h | h <;> rw [h] <;> rfl
  have hik : idxOk t.fKind ([(⟨#[112, 97, 121]⟩ : ByteArray), (⟨#[106, 111, 105, 110]⟩ : ByteArray), (⟨#[108, 101, 97, 118, 101]⟩ : ByteArray)] : List ByteArray).length = true := by unfold idxOk; simp; omega
  have e0 := txText_l0 t ht t.fIns.length 0 [] (by omega) (by simp)
  rw [List.nil_append, List.drop_zero] at e0
  have hh : Evt (fun k => (bif (t.fKind != 0) then ((impl_dec.f k t.fMember).bind fun t3099 => (Zk.chk (leB ((([mkB (kindW t.fKind)] : List ByteArray).length + ([t3099] : List ByteArray).length) * 16) 140737488355328) (some (([mkB (kindW t.fKind)] : List ByteArray) ++ ([t3099] : List ByteArray))))) else some ([mkB (kindW t.fKind)] : List ByteArray))) ((txHead t).map mkB) := by
    unfold txHead
    cases hz : t.fKind != 0
    · exact Evt.f rfl (Evt.self _)
    · have hm := ht.mem (by simpa using hz)
      exact Evt.t rfl (Evt.bind (impl_dec_ev t.fMember (by omega) (by omega)) (Evt.chk rfl (Evt.self _)))
  have hhl : (txHead t).length ≤ 2 := by unfold txHead; cases t.fKind != 0 <;> simp
  have e1 := txText_l1 t ht t.fOuts.length 0 ((txHead t).map mkB ++ [mkB (Lib.join (t.fIns.map refL) [43])]) (by omega) (by simp; omega)
  have ew : (txHead t).map mkB ++ [mkB (Lib.join (t.fIns.map refL) [43])] ++ ((t.fOuts.drop 0).map outL).map mkB = (txWs t).map mkB := by unfold txWs; simp
  rw [ew] at e1
  unfold impl_txText.f
  refine Evt.bind (Evt.self _) (Evt.chk hik ?_)
  simp only [hg, c43, c32]
  refine Evt.bind hh (Evt.bind e0 (Evt.bind (strings_Join_ev (t.fIns.map refL) [43] (by rw [List.length_map]; omega) (by omega)) (Evt.chk (leB_mk2 (by simp; omega)) (Evt.bind e1 (Evt.bind (strings_Join_ev (txWs t) [32] (by omega) (by show (txL t).length ≤ _; omega)) ?_)))))
  show Evt (fun k => bif (decide (300 < ((mkB (txL t)).size : Int))) then some ((⟨#[]⟩ : ByteArray), 2) else some (mkB (txL t), 0)) _
  rw [mkB_size]
  unfold txText_v
  exact Evt.if_ (Evt.self _) (Evt.self _)
def impl_TxText_v (x0 : Tx) : TextResult := (bif ((impl_TxFault_v x0) != 0) then (⟨(impl_TxFault_v x0), (⟨#[]⟩ : ByteArray)⟩ : TextResult) else (⟨(txText_v x0).2, (txText_v x0).1⟩ : TextResult))
theorem impl_TxText_ev (x0 : Tx) (h_x0 : smTx x0) : Evt (fun k => impl_TxText.f k x0) (impl_TxText_v x0) := by
  refine Evt.bind (impl_TxFault_ev x0 h_x0) (Evt.ifh (fun hc => Evt.self _) (fun hc => Evt.bind (impl_txText_ev x0 (tx_ok x0 (by rw [← txFault_same]; exact hc))) (Evt.self _)))
theorem eqTextResult_ev (x : TextResult) (h : smTextResult x) : Evt (fun k => laws_eqTextResult.f k x x) true := Evt.f (by simp [sEq_refl]) (Evt.f (by simp [sEq_refl]) (Evt.self _))
theorem eqRef_ev (x : Ref) (h : smRef x) : Evt (fun k => laws_eqRef.f k x x) true := Evt.f (by simp [sEq_refl]) (Evt.f (by simp [sEq_refl]) (Evt.self _))
theorem eqRefS_ev (x : List Ref) (h : (Lm smRef) x) : Evt (fun k => laws_eqRefS.f k x x) true := by
  have hn := h.1
  refine (Evt.eqr (L := fun k i => laws_eqRefS.l0 x x k i) (fun _ _ => true) x x (by omega) (fun i h1 h2 o ht hf => ?_) ?_).to (eqRows_refl (fun _ => rfl) x)
  · refine Evt.s ?_
    simp only [laws_eqRefS.l0_s]
    exact Evt.t (int_lt h1) (Evt.chk (idx_ok h1) (Evt.chk (idx_ok h2) (Evt.bind (eqRef_ev _ (h.2 _ (gt_mem h1))) (Evt.f rfl (ht rfl)))))
  · refine Evt.s ?_
    simp only [laws_eqRefS.l0_s]
    exact Evt.f int_nlt (Evt.self _)
theorem eqInt64S_ev (x : List Int) (h : (Lm tr) x) : Evt (fun k => laws_eqInt64S.f k x x) true := by
  have hn := h.1
  refine (Evt.eqr (L := fun k i => laws_eqInt64S.l0 x x k i) (fun _ _ => true) x x (by omega) (fun i h1 h2 o ht hf => ?_) ?_).to (eqRows_refl (fun _ => rfl) x)
  · refine Evt.s ?_
    simp only [laws_eqInt64S.l0_s]
    exact Evt.t (int_lt h1) (Evt.chk (idx_ok h1) (Evt.chk (idx_ok h2) (Evt.f (by simp [sEq_refl]) (ht rfl))))
  · refine Evt.s ?_
    simp only [laws_eqInt64S.l0_s]
    exact Evt.f int_nlt (Evt.self _)
theorem eqRule_ev (x : Rule) (h : smRule x) : Evt (fun k => laws_eqRule.f k x x) true := Evt.bind (eqInt64S_ev _ h.1) (Evt.f rfl (Evt.f (by simp [sEq_refl]) (Evt.f (by simp [sEq_refl]) (Evt.self _))))
theorem eqOut_ev (x : Out) (h : smOut x) : Evt (fun k => laws_eqOut.f k x x) true := Evt.f (by simp [sEq_refl]) (Evt.bind (eqRule_ev _ h.2) (Evt.f rfl (Evt.self _)))
theorem eqOutS_ev (x : List Out) (h : (Lm smOut) x) : Evt (fun k => laws_eqOutS.f k x x) true := by
  have hn := h.1
  refine (Evt.eqr (L := fun k i => laws_eqOutS.l0 x x k i) (fun _ _ => true) x x (by omega) (fun i h1 h2 o ht hf => ?_) ?_).to (eqRows_refl (fun _ => rfl) x)
  · refine Evt.s ?_
    simp only [laws_eqOutS.l0_s]
    exact Evt.t (int_lt h1) (Evt.chk (idx_ok h1) (Evt.chk (idx_ok h2) (Evt.bind (eqOut_ev _ (h.2 _ (gt_mem h1))) (Evt.f rfl (ht rfl)))))
  · refine Evt.s ?_
    simp only [laws_eqOutS.l0_s]
    exact Evt.f int_nlt (Evt.self _)
theorem eqTx_ev (x : Tx) (h : smTx x) : Evt (fun k => laws_eqTx.f k x x) true := Evt.f (by simp [sEq_refl]) (Evt.f (by simp [sEq_refl]) (Evt.bind (eqRefS_ev _ h.2.2.1) (Evt.f rfl (Evt.bind (eqOutS_ev _ h.2.2.2) (Evt.f rfl (Evt.self _))))))
theorem same_FnExactTxText (x0 : Tx) (h0 : smTx x0) (o0 : okTx x0) : impl_TxText_v x0 = spec_TxText_v x0 := by
  unfold impl_TxText_v spec_TxText_v
  rw [txFault_same]
  cases hz : spec_l3Fault_v x0 != 0
  · simp only [cond_false]
    unfold txText_v spec_l3Text_v
    rw [mkB_size]
    cases decide (300 < ((txL x0).length : Int)) <;> rfl
  · rfl
end Go.Proofs.YtcpacdbdehphkaaDoor.Zk
namespace Go.Proofs.YtcpacdbdehphkaaDoor.Pure
open Go Go.Proofs.YtcpacdbdehphkaaDoor.Zk
theorem FnExactTxText (x0 : Zk.Tx) (o_x0 : okTx x0) : ∃ k, laws_FnExactTxText.f k x0 = some true := by
  refine Evt.get ?_
  obtain ⟨t0, e0, l0, s0⟩ := szTx_ev x0 o_x0 1048576 (by omega) (by omega)
  by_cases c0 : t0 < 0
  · exact Evt.bind e0 (Evt.t (by simpa using c0) (Evt.self _))
  refine Evt.bind e0 (Evt.f (by simpa using c0) ?_)
  have m0 := s0 (by omega)
  refine Evt.bind (toTx_ev x0 (m0)) ?_
  refine Evt.bind (spec_TxText_ev x0 (m0)) ?_
  refine Evt.bind (toTx_ev x0 (m0)) ?_
  refine Evt.bind ((impl_TxText_ev x0 (m0)).to (same_FnExactTxText x0 (m0) o_x0)) ?_
  refine Evt.bind (eqTextResult_ev _ (by repeat' (first | trivial | constructor))) (Evt.f rfl ?_)
  refine Evt.bind (toTx_ev x0 (m0)) ?_
  refine Evt.bind (eqTx_ev _ (m0)) (Evt.f rfl ?_)
  exact Evt.self _
end Go.Proofs.YtcpacdbdehphkaaDoor.Pure
