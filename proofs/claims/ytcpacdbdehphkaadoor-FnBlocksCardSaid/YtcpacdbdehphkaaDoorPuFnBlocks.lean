/- The plain law of FnBlocks: what the program's function and the reference's compute is the same. No condition. -/
import Derived.Test.YtcpacdbdehphkaaDoorZkPure
import Derived.Test.YtcpacdbdehphkaaDoorFnBlocksZkOpn
import Derived.Test.YtcpacdbdehphkaaDoorFnBlocksZkF5
namespace Go.Proofs.YtcpacdbdehphkaaDoor.Zk
open Go Go.RowKit Go.IntWalk
set_option linter.unusedVariables false
set_option linter.unusedSimpArgs false

def szL (n : Nat) (l : Int) : Int := bif decide (wrap64 (l - n) < 0) then -1 else wrap64 (l - n)
theorem szL_ok {n : Nat} {l : Int} (h : decide (szL n l < 0) = false) (h0 : 0 ≤ l) (h1 : l ≤ 1048576) (hn : n ≤ maxLen) : (n : Int) ≤ l ∧ szL n l = l - n := by
  unfold szL at *
  have hn' : n ≤ 9223372036854775807 := by simpa [maxLen] using hn
  have e : wrap64 (l - n) = l - n := by unfold wrap64; omega
  rw [e] at h ⊢
  by_cases hc : l - (n : Int) < 0
  · rw [decide_eq_true hc] at h; cases h
  · rw [decide_eq_false hc]; exact ⟨by omega, rfl⟩
theorem szL_le {n : Nat} {l : Int} (h0 : 0 ≤ l) (h1 : l ≤ 1048576) (hn : n ≤ maxLen) : szL n l ≤ l := by
  unfold szL
  have hn' : n ≤ 9223372036854775807 := by simpa [maxLen] using hn
  have e : wrap64 (l - n) = l - n := by unfold wrap64; omega
  rw [e]
  by_cases hc : l - (n : Int) < 0
  · rw [decide_eq_true hc]; show (-1 : Int) ≤ l; omega
  · rw [decide_eq_false hc]; show l - (n : Int) ≤ l; omega
theorem nn {l : Int} (h : decide (l < 0) = false) : 0 ≤ l := by simpa using h
abbrev tr {α : Type} (x : α) : Prop := True
def Lm {α : Type} (sm : α → Prop) (xs : List α) : Prop := xs.length ≤ 1048576 ∧ ∀ x ∈ xs, sm x
theorem gt_mem {α : Type} [Inhabited α] {xs : List α} {i : Nat} (h : i < xs.length) : gt xs (i : Int) ∈ xs := by
  rw [gt_eq (i := (i : Int)) (by simpa using h)]
  exact List.getElem_mem _
/-- Sizes, added up. -/
theorem Evt.szl {α : Type} [Inhabited α] {L : Nat → Int → Int → Option (Int ⊕ Int)} {sm : α → Prop} (xs : List α) (hn : xs.length ≤ 9223372036854775807)
    (step : ∀ i, i < xs.length → ∀ left, 0 ≤ left → left ≤ 1048576 → ∃ t, t ≤ left ∧ (0 ≤ t → sm (gt xs (i : Int))) ∧ (t < 0 → Evt (fun k => L k left (i : Int)) (.inl (-1))) ∧ ∀ o, 0 ≤ t → Evt (fun k => L k t (wrap64 ((i : Int) + 1))) o → Evt (fun k => L k left (i : Int)) o)
    (done : ∀ left, Evt (fun k => L k left (xs.length : Int)) (.inr left)) (l : Int) (h0 : 0 ≤ l) (h1 : l ≤ 1048576) :
    ∃ o, Evt (fun k => L k l 0) o ∧ match o with | .inl r => r = -1 | .inr t => 0 ≤ t ∧ t ≤ l ∧ ∀ x ∈ xs, sm x := by
  have key : ∀ d i l, i + d = xs.length → 0 ≤ l → l ≤ 1048576 → ∃ o, Evt (fun k => L k l (i : Int)) o ∧ match o with | .inl r => r = -1 | .inr t => 0 ≤ t ∧ t ≤ l ∧ ∀ j, i ≤ j → j < xs.length → sm (gt xs (j : Int)) := by
    intro d
    induction d with
    | zero =>
      intro i l hi h0 h1
      have e : i = xs.length := by omega
      subst e
      exact ⟨_, done l, h0, by omega, fun j h2 h3 => by omega⟩
    | succ d ih =>
      intro i l hi h0 h1
      obtain ⟨t, a1, a2, a3, a4⟩ := step i (by omega) l h0 h1
      by_cases c : t < 0
      · exact ⟨_, a3 c, rfl⟩
      · obtain ⟨o, b1, b2⟩ := ih (i + 1) t (by omega) (by omega) (by omega)
        refine ⟨o, a4 o (by omega) (by rw [w64 (by omega : i < xs.length) hn]; exact b1), ?_⟩
        cases o with
        | inl r => exact b2
        | inr u =>
          refine ⟨b2.1, by have := b2.2.1; omega, fun j h2 h3 => ?_⟩
          by_cases e : j = i
          · subst e; exact a2 (by omega)
          · exact b2.2.2 j (by omega) h3
  obtain ⟨o, b1, b2⟩ := key xs.length 0 l (by omega) h0 h1
  refine ⟨o, b1, ?_⟩
  cases o with
  | inl r => exact b2
  | inr u =>
    refine ⟨b2.1, b2.2.1, fun x hx => ?_⟩
    obtain ⟨j, hj, e⟩ := List.getElem_of_mem hx
    have := b2.2.2 j (by omega) hj
    rw [gt_eq (i := (j : Int)) (by simpa using hj)] at this
    simpa [e] using this

theorem Evt_t2 {β : Type} {f g nxt : Nat → Option (β ⊕ Unit)} {c : Bool} {v : Option β} (hc : c = true) (h : StE f nxt v) : StE (fun n => bif c then f n else g n) nxt v := by subst hc; exact h
theorem Lm_take {α : Type} {sm : α → Prop} {xs : List α} {n : Nat} (h : Lm sm xs) : Lm sm (xs.take n) := ⟨by have := h.1; rw [List.length_take]; omega, fun x hx => h.2 x (List.mem_of_mem_take hx)⟩
theorem Lm_drop {α : Type} {sm : α → Prop} {xs : List α} {n : Nat} (h : Lm sm xs) : Lm sm (xs.drop n) := ⟨by have := h.1; rw [List.length_drop]; omega, fun x hx => h.2 x (List.mem_of_mem_drop hx)⟩
/-! searches, told by 'any' -/
theorem found_any {β γ : Type} (l : List Nat) (p : Nat → Bool) (a : β) (r : β → γ) (c : γ) : onO (l.findSome? fun i => bif p i then some a else none) r c = bif l.any p then r a else c := by
  induction l with
  | nil => rfl
  | cons i l ih =>
    rw [List.findSome?_cons, List.any_cons]
    cases p i
    · simpa using ih
    · rfl
theorem idx_any (l : List Nat) (p : Nat → Bool) : decide (0 ≤ onO (l.findSome? fun i => bif p i then some (i : Int) else none) (fun r => r) (-1)) = l.any p := by
  induction l with
  | nil => rfl
  | cons i l ih =>
    rw [List.findSome?_cons, List.any_cons]
    cases p i
    · simpa using ih
    · simp [onO]
theorem band1 {c d e : Bool} : (c && (bif c then d else e)) = (c && d) := by cases c <;> rfl
theorem bor1 {c d e : Bool} : (c || (bif !c then d else e)) = (c || d) := by cases c <;> rfl
theorem bnn1 {c d e : Bool} : ((!c) || (!(bif (!(!c)) then d else e))) = ((!c) || (!d)) := by cases c <;> rfl
theorem bnn2 {c d : Bool} : ((!c) || (!d)) = !(c && d) := by cases c <;> rfl
theorem bnn3 {c d e : Bool} : ((!c) || (!(bif !(!c) then d else e))) = !(c && d) := by cases c <;> rfl
theorem bn_n {c d e : Bool} : (!c || !(bif c then d else e)) = !(c && d) := by cases c <;> rfl
theorem rng1 {a lo hi : Int} : (decide (a < lo) || decide (hi < a)) = !(decide (lo ≤ a) && decide (a ≤ hi)) := by
  by_cases h1 : a < lo
  · have : ¬ lo ≤ a := by omega
    simp [h1, this]
  · have h2 : lo ≤ a := by omega
    by_cases h3 : hi < a
    · have : ¬ a ≤ hi := by omega
      simp [h1, h2, h3, this]
    · have : a ≤ hi := by omega
      simp [h1, h2, h3, this]
theorem at_any (l : List Nat) (p : Nat → Bool) (h : ∀ i ∈ l, i < 4611686018427387904) : decide (0 < onO (l.findSome? fun i => bif p i then some (wrap64 ((i : Int) + 1)) else none) (fun r => r) 0) = l.any p := by
  induction l with
  | nil => rfl
  | cons i l ih =>
    rw [List.findSome?_cons, List.any_cons]
    have hi := h i (by simp)
    have hl : ∀ j ∈ l, j < 4611686018427387904 := fun j hj => h j (List.mem_cons_of_mem _ hj)
    clear h
    cases p i
    · exact ih hl
    · have e : wrap64 ((i : Int) + 1) = (i : Int) + 1 := by unfold wrap64; omega
      rw [e]
      show decide (0 < (i : Int) + 1) = true
      exact decide_eq_true (by omega)
theorem fs_congr {β : Type} {l : List Nat} {f g : Nat → Option β} (h : ∀ i ∈ l, f i = g i) : l.findSome? f = l.findSome? g := by
  induction l with
  | nil => rfl
  | cons i l ih => rw [List.findSome?_cons, List.findSome?_cons, h i (by simp), ih fun j hj => h j (by simp [hj])]
theorem any_congr' {l : List Nat} {f g : Nat → Bool} (h : ∀ i ∈ l, f i = g i) : l.any f = l.any g := by
  induction l with
  | nil => rfl
  | cons i l ih => rw [List.any_cons, List.any_cons, h i (by simp), ih fun j hj => h j (by simp [hj])]
theorem in_range {i n : Nat} (h : i ∈ List.range' 0 (n - 0)) : i < n := by
  have := List.mem_range'_1.1 h
  omega
theorem gt_take {α : Type} [Inhabited α] {xs : List α} {n j : Nat} (h : j < n) : gt (xs.take n) (j : Int) = gt xs (j : Int) := by
  unfold gt
  have e : ((j : Int)).toNat = j := by simp
  rw [e, List.getD_eq_getElem?_getD, List.getD_eq_getElem?_getD, List.getElem?_take, if_pos h]
theorem any_take {α : Type} [Inhabited α] {xs : List α} {i : Nat} (h : i ≤ xs.length) (p : α → Bool) :
    (List.range' 0 ((xs.take i).length - 0)).any (fun j => p (gt (xs.take i) (j : Int))) = (List.range' 0 (i - 0)).any (fun j => p (gt xs (j : Int))) := by
  have e : (xs.take i).length = i := by rw [List.length_take]; omega
  rw [e]
  exact any_congr' fun j hj => by rw [gt_take (in_range hj)]
theorem sEq_comm (a b : ByteArray) : sEq a b = sEq b a := by unfold sEq; exact BEq.comm
theorem bifb {b : Bool} : (bif b then true else false) = b := by cases b <;> rfl
theorem idx_found {n : Nat} {p : Nat → Bool} (h : 0 ≤ onO ((List.range' 0 (n - 0)).findSome? fun i => bif p i then some (i : Int) else none) (fun r => r) (-1)) : idxOk (onO ((List.range' 0 (n - 0)).findSome? fun i => bif p i then some (i : Int) else none) (fun r => r) (-1)) n = true := by
  have key : ∀ l : List Nat, (∀ i ∈ l, i < n) → 0 ≤ onO (l.findSome? fun i => bif p i then some (i : Int) else none) (fun r => r) (-1) → idxOk (onO (l.findSome? fun i => bif p i then some (i : Int) else none) (fun r => r) (-1)) n = true := by
    intro l
    induction l with
    | nil => intro _ h; exact absurd h (by show ¬ (0 : Int) ≤ -1; omega)
    | cons i l ih =>
      intro hl h
      rw [List.findSome?_cons] at h ⊢
      cases hp : p i
      · rw [hp] at h; exact ih (fun j hj => hl j (List.mem_cons_of_mem _ hj)) h
      · exact idx_ok (hl i (List.mem_cons_self ..))
  exact key _ (fun i hi => in_range hi) h
theorem cut_ok {i n : Nat} (h : i ≤ n) : cutOk (i : Int) n = true := by unfold cutOk; simp; omega
theorem len_eq {a b : Nat} (h : ((a : Int) != (b : Int)) = false) : a = b := by
  by_cases e : a = b
  · exact e
  · have : ((a : Int) != (b : Int)) = true := by simp; omega
    rw [this] at h; cases h

abbrev sml1Src (x : l1Src) : Prop := (Lm tr) x.fCode ∧ tr x.fAt
abbrev smBlock (x : Block) : Prop := tr x.fPrev ∧ tr x.fHeight ∧ tr x.fMiner ∧ (Lm tr) x.fTxs
abbrev smBlockResult (x : BlockResult) : Prop := tr x.fCode ∧ smBlock x.fBlock
abbrev smTextResult (x : TextResult) : Prop := tr x.fCode ∧ tr x.fText
abbrev smIntResult (x : IntResult) : Prop := tr x.fCode ∧ tr x.fValue
/-! ### Rows marked, and held so -/
theorem chkT {α : Type} (t : Option α) : Zk.chk true t = t := rfl
theorem gt_set {α : Type} [Inhabited α] {xs : List α} {i : Nat} (h : i < xs.length) (a : α) : gt (xs.set i a) (i : Int) = a := by
  rw [gt_eq (by simpa using h)]; simp
theorem mark_held {α : Type} [Inhabited α] (L : Nat → List α → Int → Int → Option (List α × Int)) (H : List α → Nat → Int → Int → Option (Int ⊕ Int)) (B : Prop) (c : Int) (hc : 0 ≤ c) (p : α → Prop)
    (step : ∀ (acc : List α) (s : Int) (i : Nat), i < acc.length → p (gt acc (i : Int)) → 1 ≤ s → s + c ≤ 4611686018427387904 → ∃ y t, s ≤ t ∧ t ≤ s + c ∧ (∀ r, Evt (fun k => L k (acc.set i y) t (wrap64 ((i : Int) + 1))) r → Evt (fun k => L (k + 1) acc s (i : Int)) r) ∧
      (B → ∀ ys : List α, i < ys.length → gt ys (i : Int) = y → ∀ r, Evt (fun k => H ys k t (wrap64 ((i : Int) + 1))) r → Evt (fun k => H ys (k + 1) s (i : Int)) r))
    (doneL : ∀ (acc : List α) (s : Int), Evt (fun k => L (k + 1) acc s (acc.length : Int)) (acc, s)) (doneH : B → ∀ (ys : List α) (s : Int), Evt (fun k => H ys (k + 1) s (ys.length : Int)) (.inr s))
    (xs : List α) (hn : xs.length ≤ 9223372036854775807) (hp : ∀ x ∈ xs, p x) (s : Int) (h1 : 1 ≤ s) (h2 : s + xs.length * c ≤ 4611686018427387904) :
    ∃ ys t, ys.length = xs.length ∧ s ≤ t ∧ t ≤ s + xs.length * c ∧ Evt (fun k => L k xs s 0) (ys, t) ∧ (B → Evt (fun k => H ys k s 0) (.inr t)) := by
  have key : ∀ (d i : Nat) (acc : List α) (s : Int), i + d = xs.length → acc.length = xs.length → (∀ j, i ≤ j → acc[j]? = xs[j]?) → 1 ≤ s → s + d * c ≤ 4611686018427387904 →
      ∃ ys t, ys.length = xs.length ∧ (∀ j, j < i → ys[j]? = acc[j]?) ∧ s ≤ t ∧ t ≤ s + d * c ∧ Evt (fun k => L k acc s (i : Int)) (ys, t) ∧ (B → Evt (fun k => H ys k s (i : Int)) (.inr t)) := by
    intro d
    induction d with
    | zero =>
      intro i acc s hi hl _ h1 h2
      have e : (i : Int) = (acc.length : Int) := by omega
      exact ⟨acc, s, hl, fun _ _ => rfl, by omega, by omega, by rw [e]; exact Evt.s (doneL acc s), fun hB => by rw [e]; exact Evt.s (doneH hB acc s)⟩
    | succ d ih =>
      intro i acc s hi hl hj h1 h2
      have e : ((d + 1 : Nat) : Int) * c = d * c + c := by rw [Int.natCast_add, Int.add_mul]; simp
      have hdc : 0 ≤ (d : Int) * c := Int.mul_nonneg (by omega) hc
      rw [e] at h2
      have hlt : i < acc.length := by omega
      have hpx : p (gt acc (i : Int)) := by
        rw [gt_eq (by simpa using hlt)]
        have h5 := hj i (Nat.le_refl _)
        rw [List.getElem?_eq_getElem hlt] at h5
        exact hp _ (List.mem_of_getElem? h5.symm)
      obtain ⟨y, t1, a1, a2, a3, a4⟩ := step acc s i hlt hpx h1 (by omega)
      obtain ⟨ys, t, b1, b2, b3, b4, b5, b6⟩ := ih (i + 1) (acc.set i y) t1 (by omega) (by simp [hl]) (fun j hj' => by rw [List.getElem?_set_ne (by omega)]; exact hj j (by omega)) (by omega) (by omega)
      have hy : gt ys (i : Int) = y := by
        have h6 := b2 i (by omega)
        rw [List.getElem?_set_self hlt] at h6
        rw [gt_eq (by simp; omega)]
        have h7 : i < ys.length := by omega
        rw [List.getElem?_eq_getElem h7] at h6
        simpa using h6
      refine ⟨ys, t, b1, fun j hj' => ?_, by omega, by rw [e]; omega, Evt.s (a3 _ ?_), fun hB => Evt.s (a4 hB ys (by omega) hy _ ?_)⟩
      · rw [b2 j (by omega), List.getElem?_set_ne (by omega)]
      · rw [w64 (by omega : i < xs.length) hn]; exact b5
      · rw [w64 (by omega : i < xs.length) hn]; exact b6 hB
  obtain ⟨ys, t, a1, _, a3, a4, a5, a6⟩ := key xs.length 0 xs s (by omega) rfl (fun _ _ => rfl) h1 h2
  exact ⟨ys, t, a1, a3, a4, a5, a6⟩
/-! ### What is gathered in a row -/
theorem len_bif {α : Type} {c : Bool} {a b : List α} {n : Nat} (h : a.length ≤ n) (k : b.length ≤ n) : (bif c then a else b).length ≤ n := by cases c; exact k; exact h
theorem Evt.gatherL {σ : Type} {L : Nat → List σ → Int → Option (List σ)} (n : Nat) (hn : n ≤ 1048576) (st : List σ → Nat → List σ)
    (len : ∀ i, i < n → ∀ a, a.length ≤ i → (st a i).length ≤ i + 1)
    (step : ∀ i, i < n → ∀ a, a.length ≤ i → ∀ o, Evt (fun k => L k (st a i) (wrap64 ((i : Int) + 1))) o → Evt (fun k => L (k + 1) a (i : Int)) o)
    (done : ∀ (i : Nat) a, n ≤ i → Evt (fun k => L (k + 1) a (i : Int)) a) : Evt (fun k => L k [] 0) ((List.range' 0 (n - 0)).foldl st []) := by
  have key : ∀ d i (a : List σ), (i + d = n ∨ n ≤ i ∧ d = 0) → a.length ≤ i → Evt (fun k => L k a (i : Int)) ((List.range' i d).foldl st a) := by
    intro d
    induction d with
    | zero => intro i a hi _; exact Evt.s (done i a (by omega))
    | succ d ih =>
      intro i a hi ha
      rw [List.range'_succ, List.foldl_cons]
      refine Evt.s (step i (by omega) a ha _ ?_)
      rw [w64 (by omega : i < n) (by omega)]
      exact ih (i + 1) (st a i) (by omega) (len i (by omega) a ha)
  exact key (n - 0) 0 [] (by omega) (by simp)
theorem fold_len {σ : Type} (st : List σ → Nat → List σ) (h : ∀ a i, (st a i).length ≤ a.length + 1) : ∀ (l : List Nat) (a : List σ), (l.foldl st a).length ≤ a.length + l.length
  | [], a => by simp
  | i :: l, a => by
    have h1 := fold_len st h l (st a i)
    have h2 := h a i
    simp only [List.foldl_cons, List.length_cons]; omega
theorem fold_len0 {σ : Type} (st : List σ → Nat → List σ) (h : ∀ a i, (st a i).length ≤ a.length + 1) (n : Nat) : ((List.range' 0 (n - 0)).foldl st []).length ≤ n := by
  have := fold_len st h (List.range' 0 (n - 0)) []
  simpa using this
theorem cut_next {t : Int} {n : Nat} (h : idxOk t n = true) (hn : n ≤ 1048576) : cutOk (wrap64 (t + 1)) n = true := by
  have h1 := idx_lo h
  have h2 := idx_hi h
  rw [wrap64_in _ (by omega)]
  unfold cutOk; simp; omega
theorem cut_self {t : Int} {n : Nat} (h : idxOk t n = true) (hn : n ≤ 1048576) : cutOk t (wrap64 (t + 1)).toNat = true := by
  have h1 := idx_lo h
  have h2 := idx_hi h
  rw [wrap64_in _ (by omega)]
  unfold cutOk; simp; omega
theorem Lm_gath {α : Type} [Inhabited α] {sm : α → Prop} (x0 : List α) (h : Lm sm x0) (c : Nat → Bool) : Lm sm ((List.range' 0 (x0.length - 0)).foldl (fun ac (i : Nat) => bif c i then ac ++ ([gt x0 (i : Int)] : List α) else ac) ([] : List α)) := by
  have key : ∀ d i (a : List α), i + d = x0.length → (∀ x ∈ a, sm x) → a.length ≤ i → (∀ x ∈ (List.range' i d).foldl (fun ac (i : Nat) => bif c i then ac ++ ([gt x0 (i : Int)] : List α) else ac) a, sm x) ∧ ((List.range' i d).foldl (fun ac (i : Nat) => bif c i then ac ++ ([gt x0 (i : Int)] : List α) else ac) a).length ≤ x0.length := by
    intro d
    induction d with
    | zero => intro i a hi ha hl; exact ⟨ha, by show a.length ≤ _; omega⟩
    | succ d ih =>
      intro i a hi ha hl
      rw [List.range'_succ, List.foldl_cons]
      refine ih (i + 1) _ (by omega) ?_ ?_
      · cases c i
        · exact ha
        · intro x hx
          rw [cond_true, List.mem_append] at hx
          rcases hx with hx | hx
          · exact ha x hx
          · rw [List.mem_singleton] at hx; subst hx; exact h.2 _ (gt_mem (by omega))
      · cases c i
        · show a.length ≤ i + 1; omega
        · simp; omega
  obtain ⟨h1, h2⟩ := key x0.length 0 [] (by omega) (fun x hx => by cases hx) (by simp)
  exact ⟨Nat.le_trans h2 h.1, h1⟩
/-! ### A loop over a row, with a state that turns, or an early end -/
def stepAll {σ τ : Type} (g : σ → τ → Option σ) : σ → List τ → Option σ
  | s, [] => some s
  | s, r :: rs => match g s r with
    | none => none
    | some t => stepAll g t rs
theorem Evt.steps {σ τ β : Type} [Inhabited τ] {L : Nat → σ → Int → Option (β ⊕ σ)} (rs : List τ) (hn : rs.length ≤ 9223372036854775807) (I : σ → Prop) (g : σ → τ → Option σ) (bad : β)
    (step : ∀ i, i < rs.length → ∀ s, I s → ∀ o, (∀ t, g s (gt rs (i : Int)) = some t → Evt (fun k => L k t (wrap64 ((i : Int) + 1))) o) → (g s (gt rs (i : Int)) = none → o = .inl bad) → Evt (fun k => L (k + 1) s (i : Int)) o)
    (pres : ∀ s r t, I s → g s r = some t → I t) (done : ∀ s, Evt (fun k => L (k + 1) s (rs.length : Int)) (.inr s)) (s : σ) (hs : I s) :
    Evt (fun k => L k s 0) (match stepAll g s rs with | some t => .inr t | none => .inl bad) := by
  have key : ∀ d i s, i + d = rs.length → I s → Evt (fun k => L k s (i : Int)) (match stepAll g s (rs.drop i) with | some t => .inr t | none => .inl bad) := by
    intro d
    induction d with
    | zero =>
      intro i s hi hs
      rw [List.drop_of_length_le (by omega)]
      have e : i = rs.length := by omega
      subst e
      exact Evt.s (done s)
    | succ d ih =>
      intro i s hi hs
      have hlt : i < rs.length := by omega
      rw [List.drop_eq_getElem_cons hlt]
      have hg : gt rs (i : Int) = rs[i] := gt_eq (by simpa using hlt)
      refine Evt.s (step i hlt s hs _ (fun t ht => ?_) (fun ht => ?_))
      · rw [hg] at ht
        rw [w64 hlt hn]
        have := ih (i + 1) t (by omega) (pres _ _ _ hs ht)
        simp only [stepAll, ht]
        exact this
      · rw [hg] at ht
        simp only [stepAll, ht]
  exact key rs.length 0 s (by omega) hs
theorem stepAll_pres {σ τ : Type} {g : σ → τ → Option σ} {I : σ → Prop} (pres : ∀ s r t, I s → g s r = some t → I t) : ∀ (rs : List τ) (s t : σ), I s → stepAll g s rs = some t → I t
  | [], s, t, hs, h => by cases h; exact hs
  | r :: rs, s, t, hs, h => by
    simp only [stepAll] at h
    cases hg : g s r with
    | none => rw [hg] at h; cases h
    | some u => rw [hg] at h; exact stepAll_pres pres rs u t (pres _ _ _ hs hg) h
theorem stepAll_same {σ τ : Type} {g g' : σ → τ → Option σ} {I : σ → Prop} (pres : ∀ s r t, I s → g s r = some t → I t) (same : ∀ s r, I s → g s r = g' s r) : ∀ (rs : List τ) (s : σ), I s → stepAll g s rs = stepAll g' s rs
  | [], s, _ => rfl
  | r :: rs, s, hs => by
    simp only [stepAll]
    rw [← same s r hs]
    cases hg : g s r with
    | none => rfl
    | some u => exact stepAll_same pres same rs u (pres _ _ _ hs hg)
theorem Lm_sub {α : Type} {sm : α → Prop} {xs ys : List α} (h : Lm sm xs) (s : ys.Sublist xs) : Lm sm ys := ⟨Nat.le_trans s.length_le h.1, fun x hx => h.2 x (s.subset hx)⟩
theorem cut_sub {α : Type} (xs : List α) {a b : Nat} (h : a ≤ b) : (xs.take a ++ xs.drop b).Sublist xs := by
  have h1 : (xs.take a ++ xs.drop b).Sublist (xs.take a ++ xs.drop a) := List.Sublist.append (.refl _) (by
    have e : xs.drop b = (xs.drop a).drop (b - a) := by rw [List.drop_drop]; congr 1; omega
    rw [e]; exact List.drop_sublist _ _)
  rw [List.take_append_drop] at h1
  exact h1
theorem fs_all {β : Type} {p : Nat → Option β} {n : Nat} (h : (List.range' 0 (n - 0)).findSome? p = none) : ∀ i, i < n → p i = none := by
  intro i hi
  rw [List.findSome?_eq_none_iff] at h
  exact h i (by rw [List.mem_range']; exact ⟨i, by omega, by omega⟩)
theorem onO_zero {l : List Nat} {p : Nat → Option Int} {c : Int} (h : onO (l.findSome? p) (fun r => r) c = 0) (hp : ∀ i, p i ≠ some 0) : l.findSome? p = none ∧ c = 0 := by
  cases hf : l.findSome? p with
  | none => rw [hf] at h; exact ⟨rfl, h⟩
  | some r =>
    rw [hf] at h
    obtain ⟨i, _, hi⟩ := List.exists_of_findSome?_eq_some hf
    have : r = 0 := h
    subst this
    exact absurd hi (hp i)
/-! ### A loop over a row, as a fold over it -/
theorem range_foldl {α β : Type} [Inhabited α] (xs : List α) (f : β → α → β) (a : β) : (List.range' 0 (xs.length - 0)).foldl (fun ac (i : Nat) => f ac (gt xs (i : Int))) a = xs.foldl f a := by
  have key : ∀ d i a, i + d = xs.length → (List.range' i d).foldl (fun ac (i : Nat) => f ac (gt xs (i : Int))) a = (xs.drop i).foldl f a := by
    intro d
    induction d with
    | zero => intro i a h; rw [List.drop_eq_nil_of_le (by omega)]; rfl
    | succ d ih =>
      intro i a h
      have hi : i < xs.length := by omega
      rw [List.range'_succ, List.foldl_cons, ih (i + 1) _ (by omega), List.drop_eq_getElem_cons hi, List.foldl_cons, gt_eq (by simpa using hi)]
      simp
  simpa using key xs.length 0 a (by omega)
theorem fold_if {α β : Type} (c : α → Bool) (g : β → α → β) : ∀ (xs : List α) (ys : List α) (b : β), (xs.foldl (fun ac x => bif c x then ac ++ [x] else ac) ys).foldl g b = xs.foldl (fun n x => bif c x then g n x else n) (ys.foldl g b)
  | [], ys, b => rfl
  | x :: xs, ys, b => by
    rw [List.foldl_cons, List.foldl_cons, fold_if c g xs]
    cases c x
    · rfl
    · rw [cond_true, cond_true, List.foldl_append]; rfl
theorem fold_map {α β : Type} (g : α → β) : ∀ (xs : List α) (ys : List β), xs.foldl (fun ac x => ac ++ [g x]) ys = ys ++ xs.map g
  | [], ys => by simp
  | x :: xs, ys => by rw [List.foldl_cons, fold_map g xs]; simp
/-! ### Digits -/
def mkB (l : List UInt8) : ByteArray := ⟨l.toArray⟩
theorem mkB_append (a b : List UInt8) : mkB a ++ mkB b = mkB (a ++ b) := by
  apply ByteArray.ext
  simp [mkB]
theorem mkB_size (l : List UInt8) : (mkB l).size = l.length := by simp [mkB, ByteArray.size]
def dgL (n : Int) : List UInt8 := Lib.decDigits n.toNat
theorem dgL_len (n : Int) : ∀ u : Nat, n.toNat = u → (dgL n).length ≤ u + 1 := by
  have key : ∀ u : Nat, (Lib.decDigits u).length ≤ u + 1 := by
    intro u
    induction u using Nat.strongRecOn with
    | _ u ih =>
      rw [Lib.decDigits]
      by_cases h : u < 10
      · rw [dif_pos h]; simp
      · rw [dif_neg h, List.length_append]
        have := ih (u / 10) (by omega)
        simp; omega
  intro u hu
  subst hu
  exact key _
theorem str1 (n : Int) (h0 : 0 ≤ n) (h1 : n ≤ 200) : strOfNums ([n] : List Int) = mkB [UInt8.ofNat n.toNat] := rfl
theorem itoa_dg (n : Int) (h0 : 0 ≤ n) : (⟨(Lib.itoa n).toArray⟩ : ByteArray) = mkB (dgL n) := by
  unfold Lib.itoa
  rw [if_neg (by omega)]; rfl
theorem leB_mk {a b : Nat} (h : a + b ≤ 1000000) : leB (a + b) 9223372036854775807 = true := decide_eq_true (by omega)
theorem dg3 (n : Int) (h0 : 0 ≤ n) (h1 : n ≤ 999) : (dgL n).length ≤ 1000 := by
  have := dgL_len n n.toNat rfl
  omega
theorem join3 (xs : List Int) (h1 : 1 ≤ xs.length) (h3 : xs.length ≤ 3) (hk : ∀ x ∈ xs, 1 ≤ x ∧ x ≤ 999) : (Lib.join (xs.map dgL) [44]).length ≤ 3100 := by
  have hd : ∀ x ∈ xs, (dgL x).length ≤ 1000 := fun x hx => dg3 x (by have := hk x hx; omega) (hk x hx).2
  match xs, h1, h3, hd with
  | [a], _, _, hd => have := hd a (by simp); simp [Lib.join_cons, Lib.joinTail]; omega
  | [a, b], _, _, hd => have := hd a (by simp); have := hd b (by simp); simp [Lib.join_cons, Lib.joinTail]; omega
  | [a, b, c], _, _, hd => have := hd a (by simp); have := hd b (by simp); have := hd c (by simp); simp [Lib.join_cons, Lib.joinTail]; omega
  | [], h, _, _ => simp at h
  | _ :: _ :: _ :: _ :: _, _, h, _ => simp at h
theorem lens_le (m : Nat) : ∀ xs : List (List UInt8), (∀ x ∈ xs, x.length ≤ m) → Lib.lens xs ≤ m * xs.length
  | [], _ => by simp [Lib.lens]
  | x :: r, h => by
    have h1 := h x (by simp)
    have h2 := lens_le m r (fun y hy => h y (by simp [hy]))
    have e : m * (r.length + 1) = m * r.length + m := Nat.mul_succ ..
    have e2 : Lib.lens (x :: r) = x.length + Lib.lens r := by simp [Lib.lens]
    rw [e2, List.length_cons, e]; omega
theorem join_le {m n : Nat} {xs : List (List UInt8)} {sep : List UInt8} (h : ∀ x ∈ xs, x.length ≤ m) (hn : xs.length ≤ n) : (Lib.join xs sep).length ≤ m * n + sep.length * n := by
  cases xs with
  | nil => simp [Lib.join_nil]
  | cons x r =>
    have h1 := lens_le m (x :: r) h
    rw [List.length_cons] at h1 hn
    have a : m * (r.length + 1) ≤ m * n := Nat.mul_le_mul_left _ hn
    have b : sep.length * r.length ≤ sep.length * n := Nat.mul_le_mul_left _ (by omega)
    rw [Lib.join_length]; omega
theorem mkL (l : List UInt8) : (⟨l.toArray⟩ : ByteArray) = mkB l := rfl
theorem leB_mk2 {a b : Nat} (h : a ≤ b) : leB a b = true := decide_eq_true h
/-! ### Numbers in a text -/
def isDg (b : UInt8) : Prop := 48 ≤ b.toNat ∧ b.toNat ≤ 57
def valL (l : List UInt8) : Nat := l.foldl (fun v b => v * 10 + (b.toNat - 48)) 0
theorem valL_snoc (l : List UInt8) (b : UInt8) : valL (l ++ [b]) = valL l * 10 + (b.toNat - 48) := by simp [valL]
theorem foldl_pos : ∀ (l : List UInt8) (v : Nat), 1 ≤ v → 1 ≤ l.foldl (fun v b => v * 10 + (b.toNat - 48)) v
  | [], v, h => h
  | b :: l, v, h => foldl_pos l (v * 10 + (b.toNat - 48)) (by omega)
theorem dec_val : ∀ (n : Nat) (l : List UInt8), l.length = n → 1 ≤ n → (∀ b ∈ l, isDg b) → (1 < n → l.head? ≠ some 48) → Lib.decDigits (valL l) = l
  | 0, l, _, h, _, _ => by omega
  | n + 1, l, hl, _, hd, hz => by
    rcases List.eq_nil_or_concat l with rfl | ⟨l', b, rfl⟩
    · simp at hl
    · rw [List.concat_eq_append] at *
      have hb : isDg b := hd b (by simp)
      rw [valL_snoc]
      have hl' : l'.length = n := by simpa using hl
      cases n with
      | zero =>
        have : l' = [] := List.length_eq_zero_iff.1 hl'
        subst this
        have e : valL [] * 10 + (b.toNat - 48) = b.toNat - 48 := by simp [valL]
        rw [e, Lib.decDigits_one (by have := hb; unfold isDg at this; omega)]
        have e2 : 48 + (b.toNat - 48) = b.toNat := by have := hb.1; omega
        rw [e2, UInt8.ofNat_toNat]; rfl
      | succ n =>
        cases l' with
        | nil => simp at hl'
        | cons a l'' =>
          have ha : isDg a := hd a (by simp)
          have hz' : a ≠ 48 := by have := hz (by omega); simpa using this
          have ih := dec_val (n + 1) (a :: l'') hl' (by omega) (fun x hx => hd x (by simp at hx ⊢; rcases hx with h | h <;> simp [h])) (fun _ => by simpa using hz')
          have hv : 1 ≤ valL (a :: l'') := by
            unfold valL
            rw [List.foldl_cons]
            refine foldl_pos _ _ ?_
            have h1 := ha.1
            have h2 : a.toNat ≠ 48 := fun e => hz' (by have := UInt8.ofNat_toNat (x := a); rw [e] at this; exact this.symm)
            omega
          have h1 : ¬ valL (a :: l'') * 10 + (b.toNat - 48) < 10 := by omega
          rw [Lib.decDigits, dif_neg h1]
          have hb2 : b.toNat - 48 < 10 := by have := hb; unfold isDg at this; omega
          have e1 : (valL (a :: l'') * 10 + (b.toNat - 48)) / 10 = valL (a :: l'') := by omega
          have e2 : (valL (a :: l'') * 10 + (b.toNat - 48)) % 10 = b.toNat - 48 := by omega
          have e3 : 48 + (b.toNat - 48) = b.toNat := by have := hb.1; omega
          rw [e1, e2, ih, e3, UInt8.ofNat_toNat]
theorem u8dig {d : Nat} (h : d < 10) : (UInt8.ofNat (48 + d)).toNat = 48 + d := by
  rw [UInt8.toNat_ofNat']; omega
theorem dec_is (u : Nat) : (∀ b ∈ Lib.decDigits u, isDg b) ∧ valL (Lib.decDigits u) = u ∧ 1 ≤ (Lib.decDigits u).length ∧ (1 < (Lib.decDigits u).length → (Lib.decDigits u).head? ≠ some 48) ∧ (1 ≤ u → (Lib.decDigits u).head? ≠ some 48) := by
  induction u using Nat.strongRecOn with
  | _ u ih =>
    by_cases h : u < 10
    · rw [Lib.decDigits_one h]
      refine ⟨?_, ?_, by simp, by simp, ?_⟩
      · intro b hb
        simp only [List.mem_cons, List.not_mem_nil, or_false] at hb
        subst hb
        unfold isDg; rw [u8dig h]; omega
      · simp only [valL, List.foldl_cons, List.foldl_nil]; rw [u8dig h]; omega
      · intro hu e
        simp only [List.head?_cons, Option.some.injEq] at e
        have := congrArg UInt8.toNat e
        rw [u8dig h] at this
        have h48 : (48 : UInt8).toNat = 48 := rfl
        omega
    · obtain ⟨i1, i2, i3, i4, i5⟩ := ih (u / 10) (by omega)
      rw [Lib.decDigits.eq_1 u, dif_neg h]
      have hd : u % 10 < 10 := by omega
      have hh : (Lib.decDigits (u / 10) ++ [UInt8.ofNat (48 + u % 10)]).head? = (Lib.decDigits (u / 10)).head? := by
        cases hc : Lib.decDigits (u / 10) with
        | nil => rw [hc] at i3; simp at i3
        | cons x r => rfl
      refine ⟨?_, ?_, by simp, fun _ => ?_, fun _ => ?_⟩
      · intro b hb
        rcases List.mem_append.1 hb with hb | hb
        · exact i1 b hb
        · simp only [List.mem_cons, List.not_mem_nil, or_false] at hb
          subst hb
          unfold isDg; rw [u8dig hd]; omega
      · rw [valL_snoc, i2, u8dig hd]; omega
      · rw [hh]; exact i5 (by omega)
      · rw [hh]; exact i5 (by omega)
theorem dec_short {u : Nat} : (u < 10 → (Lib.decDigits u).length = 1) ∧ (u < 100 → (Lib.decDigits u).length ≤ 2) ∧ (u < 1000 → (Lib.decDigits u).length ≤ 3) := by
  have k1 : ∀ u, u < 10 → (Lib.decDigits u).length = 1 := fun u h => by rw [Lib.decDigits_one h]; rfl
  have k2 : ∀ u, u < 100 → (Lib.decDigits u).length ≤ 2 := fun u h => by
    by_cases c : u < 10
    · rw [k1 u c]; omega
    · rw [Lib.decDigits, dif_neg c, List.length_append, k1 (u / 10) (by omega)]; simp
  refine ⟨k1 u, k2 u, fun h => ?_⟩
  by_cases c : u < 10
  · rw [k1 u c]; omega
  · rw [Lib.decDigits, dif_neg c, List.length_append]
    have := k2 (u / 10) (by omega)
    simp; omega
theorem valL_lt : ∀ (l : List UInt8), (∀ b ∈ l, isDg b) → valL l < 10 ^ l.length := by
  intro l
  induction h : l.length generalizing l with
  | zero => have : l = [] := List.length_eq_zero_iff.1 h; subst this; intro _; simp [valL]
  | succ n ih =>
    intro hd
    rcases List.eq_nil_or_concat l with rfl | ⟨l', b, rfl⟩
    · simp at h
    · rw [List.concat_eq_append] at *
      have hb : isDg b := hd b (by simp)
      have hl' : l'.length = n := by simpa using h
      have := ih l' hl' (fun x hx => hd x (by simp [hx]))
      rw [valL_snoc, Nat.pow_succ]
      have := hb.2
      omega
instance : DecidablePred isDg := fun b => inferInstanceAs (Decidable (48 ≤ b.toNat ∧ b.toNat ≤ 57))
theorem isDg_ne {b c : UInt8} (h : isDg b) (hc : ¬ isDg c) : b ≠ c := fun e => hc (e ▸ h)
theorem dg_no {c : UInt8} (hc : ¬ isDg c) (n : Int) : c ∉ dgL n := fun h => hc ((dec_is n.toNat).1 c h)
theorem dg_pos (n : Int) : 1 ≤ (dgL n).length := (dec_is n.toNat).2.2.1
theorem dg_l2 {n : Int} (h : n ≤ 99) : (dgL n).length ≤ 2 := dec_short.2.1 (by omega)
theorem dg_l1 {n : Int} (h : n ≤ 9) : (dgL n).length ≤ 1 := by have := (dec_short (u := n.toNat)).1 (by omega); unfold dgL; omega
theorem dg_l3 {n : Int} (h : n ≤ 999) : (dgL n).length ≤ 3 := dec_short.2.2 (by omega)
theorem join5 (a b c d e : List UInt8) (s : List UInt8) : Lib.join [a, b, c, d, e] s = a ++ s ++ b ++ s ++ c ++ s ++ d ++ s ++ e := by
  simp [Lib.join_cons, Lib.joinTail, List.append_assoc]
theorem join3' (a b c : List UInt8) (s : List UInt8) : Lib.join [a, b, c] s = a ++ s ++ b ++ s ++ c := by
  simp [Lib.join_cons, Lib.joinTail, List.append_assoc]
theorem mem_join {b : UInt8} {sep : List UInt8} : ∀ {ps : List (List UInt8)}, b ∈ Lib.join ps sep → b ∈ sep ∨ ∃ p ∈ ps, b ∈ p
  | [], h => by simp [Lib.join_nil] at h
  | x :: r, h => by
    rw [Lib.join_cons] at h
    rcases List.mem_append.1 h with h | h
    · exact .inr ⟨x, by simp, h⟩
    · unfold Lib.joinTail at h
      rw [List.mem_flatten] at h
      obtain ⟨q, hq, hb⟩ := h
      obtain ⟨p, hp, rfl⟩ := List.mem_map.1 hq
      rcases List.mem_append.1 hb with hb | hb
      · exact .inl hb
      · exact .inr ⟨p, by simp [hp], hb⟩
theorem nodg {c : UInt8} (h : c = 32 ∨ c = 43 ∨ c = 44 ∨ c = 45 ∨ c = 58 ∨ c = 61 ∨ c = 95 := by decide) : ¬ isDg c := by
  rcases h with rfl | rfl | rfl | rfl | rfl | rfl | rfl <;> decide
theorem dec_len : ∀ (k u : Nat), u < 10 ^ (k + 1) → (Lib.decDigits u).length ≤ k + 1
  | 0, u, h => by rw [Lib.decDigits_one (by simpa using h)]; simp
  | k + 1, u, h => by
    by_cases c : u < 10
    · rw [Lib.decDigits_one c]; simp
    · have e : 10 ^ (k + 1 + 1) = 10 ^ (k + 1) * 10 := Nat.pow_succ ..
      rw [e] at h
      have ih := dec_len k (u / 10) (by omega)
      rw [Lib.decDigits, dif_neg c, List.length_append]
      simp; omega
theorem dg_l7 {n : Int} (h : n ≤ 9999999) : (dgL n).length ≤ 7 := dec_len 6 _ (by show n.toNat < 10000000; omega)
/-! ### A text cut at a byte -/
def cutA (c : UInt8) : List UInt8 → List UInt8 → List (List UInt8)
  | acc, [] => [acc]
  | acc, b :: l => if b = c then acc :: cutA c [] l else cutA c (acc ++ [b]) l
theorem cutA_pos (c : UInt8) : ∀ (l acc : List UInt8), 1 ≤ (cutA c acc l).length
  | [], acc => by simp [cutA]
  | b :: l, acc => by
    unfold cutA
    split
    · simp
    · exact cutA_pos c l _
theorem cutA_len (c : UInt8) : ∀ (l acc : List UInt8), (cutA c acc l).length ≤ l.length + 1
  | [], acc => by simp [cutA]
  | b :: l, acc => by
    unfold cutA
    split
    · have := cutA_len c l []; simp; omega
    · have := cutA_len c l (acc ++ [b]); simp; omega
theorem cutA_join (c : UInt8) : ∀ (l acc : List UInt8), Lib.join (cutA c acc l) [c] = acc ++ l
  | [], acc => by simp [cutA, Lib.join_one]
  | b :: l, acc => by
    unfold cutA
    split
    · next h =>
      subst h
      have h2 := cutA_join b l []
      have h3 := cutA_pos b l []
      cases hc : cutA b [] l with
      | nil => rw [hc] at h3; simp at h3
      | cons x r =>
        rw [hc, Lib.join_cons] at h2
        rw [Lib.join_cons]
        unfold Lib.joinTail at h2 ⊢
        rw [List.map_cons, List.flatten_cons]
        simp only [List.nil_append] at h2
        rw [List.append_assoc, List.singleton_append, h2]
    · rw [cutA_join c l (acc ++ [b])]; simp
theorem cutA_skip (c : UInt8) : ∀ (p acc l : List UInt8), c ∉ p → cutA c acc (p ++ l) = cutA c (acc ++ p) l
  | [], acc, l, _ => by simp
  | b :: p, acc, l, h => by
    have h1 : b ≠ c := fun e => h (by simp [e])
    have h2 : c ∉ p := fun e => h (by simp [e])
    rw [List.cons_append, cutA, if_neg h1, cutA_skip c p _ _ h2]; simp
theorem cutA_tail (c : UInt8) : ∀ (r : List (List UInt8)) (x : List UInt8), (∀ p ∈ r, c ∉ p) → cutA c x (Lib.joinTail [c] r) = x :: r
  | [], x, _ => by simp [Lib.joinTail, cutA]
  | p :: r, x, h => by
    have e : Lib.joinTail [c] (p :: r) = c :: (p ++ Lib.joinTail [c] r) := by simp [Lib.joinTail]
    rw [e, cutA, if_pos rfl, cutA_skip c p [] _ (h p (by simp)), List.nil_append, cutA_tail c r p (fun q hq => h q (by simp [hq]))]
theorem cutA_of_join (c : UInt8) (x : List UInt8) (r : List (List UInt8)) (h : ∀ p ∈ x :: r, c ∉ p) : cutA c [] (Lib.join (x :: r) [c]) = x :: r := by
  rw [Lib.join_cons, cutA_skip c x [] _ (h x (by simp)), List.nil_append, cutA_tail c r x (fun p hp => h p (by simp [hp]))]
theorem cutA_acc (c : UInt8) : ∀ (l acc : List UInt8), ∃ x r, cutA c [] l = x :: r ∧ cutA c acc l = (acc ++ x) :: r
  | [], acc => ⟨[], [], rfl, by simp [cutA]⟩
  | b :: l, acc => by
    by_cases h : b = c
    · exact ⟨[], cutA c [] l, by rw [cutA, if_pos h], by rw [cutA, if_pos h]; simp⟩
    · obtain ⟨x, r, h1, h2⟩ := cutA_acc c l (acc ++ [b])
      obtain ⟨x', r', h3, h4⟩ := cutA_acc c l [b]
      have e : x = x' ∧ r = r' := by rw [h1] at h3; exact List.cons.inj h3
      refine ⟨b :: x, r, ?_, ?_⟩
      · rw [cutA, if_neg h, List.nil_append, h4, ← e.1, ← e.2]; rfl
      · rw [cutA, if_neg h, h2]; simp
theorem cutA_le (c : UInt8) : ∀ (l acc : List UInt8) (p : List UInt8), p ∈ cutA c acc l → p.length ≤ acc.length + l.length
  | [], acc, p, h => by simp [cutA] at h; subst h; simp
  | b :: l, acc, p, h => by
    unfold cutA at h
    split at h
    · rcases List.mem_cons.1 h with h | h
      · subst h; simp
      · have := cutA_le c l [] p h; simp at this ⊢; omega
    · have := cutA_le c l (acc ++ [b]) p h; simp at this ⊢; omega
/-- The library's cut is the cut. -/
theorem split_cutA (c : UInt8) : ∀ s : List UInt8, Lib.splitK [c] 0 (Lib.count s [c]) s = cutA c [] s
  | [] => by rw [Lib.count_one]; rfl
  | b :: l => by
    have ih := split_cutA c l
    by_cases h : b = c
    · subst h
      have hix : Lib.index (b :: l) [b] = 0 := by rw [Lib.index]; simp [List.isPrefixOf]
      rw [Lib.count_cons_eq, Nat.add_comm, Lib.splitK, hix, cutA, if_pos rfl, if_neg (by decide)]
      simpa using ih
    · rw [Lib.count_cons_ne b c l h]
      have hp : ([c] : List UInt8).isPrefixOf (b :: l) = false := by simp [List.isPrefixOf, Ne.symm h]
      have hix : Lib.index (b :: l) [c] = if Lib.index l [c] == -1 then -1 else Lib.index l [c] + 1 := by rw [Lib.index, hp]; simp
      obtain ⟨x, r, h1, h2⟩ := cutA_acc c l [b]
      rw [cutA, if_neg h, List.nil_append, h2]
      rw [h1] at ih
      by_cases hm : Lib.index l [c] = -1
      · have hm' : Lib.index (b :: l) [c] = -1 := by rw [hix, hm]; rfl
        have hk : ∀ k (s : List UInt8), Lib.index s [c] = -1 → Lib.splitK [c] 0 k s = [s] := by
          intro k s hs
          cases k with
          | zero => rfl
          | succ k => rw [Lib.splitK, hs]; rfl
        rw [hk _ _ hm] at ih
        rw [hk _ _ hm']
        obtain ⟨rfl, rfl⟩ := List.cons.inj ih
        rfl
      · have hge := Lib.index_ge l [c]
        have hne : (Lib.index l [c] == -1) = false := by simpa using hm
        rw [hne] at hix
        simp only [Bool.false_eq_true, if_false] at hix
        cases hc : Lib.count l [c] with
        | zero =>
          exfalso
          obtain ⟨j, hj⟩ : ∃ j : Nat, Lib.index l [c] = j := ⟨(Lib.index l [c]).toNat, by omega⟩
          have := Lib.count_hit (s := l) (sub := [c]) (by simp) hj
          omega
        | succ k =>
          rw [hc, Lib.splitK, hne] at ih
          simp only [Bool.false_eq_true, if_false, Nat.add_zero] at ih
          obtain ⟨e1, e2⟩ := List.cons.inj ih
          rw [Lib.splitK, hix]
          have hne2 : (Lib.index l [c] + 1 == -1) = false := by simp; omega
          have ht : (Lib.index l [c] + 1).toNat = (Lib.index l [c]).toNat + 1 := by omega
          rw [hne2, ht]
          simp only [Bool.false_eq_true, if_false, Nat.add_zero, List.take_succ_cons]
          rw [e1]
          have e3 : (Lib.index l [c]).toNat + 1 + [c].length = ((Lib.index l [c]).toNat + [c].length) + 1 := by omega
          rw [e3, List.drop_succ_cons, e2]; rfl
theorem parseM (M : Nat) : ∀ (l : List UInt8) (acc : Nat), (∀ b ∈ l, isDg b) → (∀ n, n ≤ l.length → (l.take n).foldl (fun v b => v * 10 + (b.toNat - 48)) acc < 1844674407370955162 ∧ (l.take n).foldl (fun v b => v * 10 + (b.toNat - 48)) acc ≤ M) → Lib.parseUintM M acc l = .ok (l.foldl (fun v b => v * 10 + (b.toNat - 48)) acc)
  | [], acc, _, _ => rfl
  | c :: r, acc, hd, hb => by
    have hc : 48 ≤ c.toNat ∧ c.toNat ≤ 57 := hd c (by simp)
    have h0 := hb 0 (by simp)
    have h1 := hb 1 (by simp)
    simp only [List.take_zero, List.foldl_nil] at h0
    simp only [List.take_succ_cons, List.take_zero, List.foldl_cons, List.foldl_nil] at h1
    unfold Lib.parseUintM
    rw [if_pos hc, if_neg (by omega), if_neg (by omega), parseM M r _ (fun b hx => hd b (by simp [hx])) (fun n hn => by
      have := hb (n + 1) (by simp; omega)
      simpa using this)]
    rfl
theorem take_val_le (l : List UInt8) (hd : ∀ b ∈ l, isDg b) (n : Nat) (hn : n ≤ l.length) (hl : l.length ≤ 10) : valL (l.take n) < 10000000000 := by
  have h := valL_lt (l.take n) (fun b hb => hd b (List.mem_of_mem_take hb))
  have h2 : (l.take n).length ≤ 10 := by rw [List.length_take]; omega
  have h3 : 10 ^ (l.take n).length ≤ 10 ^ 10 := Nat.pow_le_pow_right (by omega) h2
  omega
theorem parse_dec (u : Nat) (hu : u < 100000000) : Lib.parseIntB 64 (Lib.decDigits u) = .ok (u : Int) := by
  obtain ⟨i1, i2, i3, i4, i5⟩ := dec_is u
  have hs : (Lib.decDigits u).length ≤ 8 := dec_len 7 u hu
  cases hc : Lib.decDigits u with
  | nil => rw [hc] at i3; simp at i3
  | cons c r =>
    rw [hc] at i1 i2 hs
    have hcd := i1 c (by simp)
    unfold Lib.parseIntB
    have h1 : ¬ (c.toNat = 43 ∨ c.toNat = 45) := by have := hcd.1; omega
    have h2 : ¬ c.toNat = 45 := by have := hcd.1; omega
    have e : Lib.parseUintB 64 (c :: r) = .ok u := by
      unfold Lib.parseUintB
      rw [if_neg (by simp), parseM _ _ _ i1 (fun n hn => by
        have := take_val_le (c :: r) i1 n hn (by omega)
        unfold valL at this
        omega)]
      exact congrArg _ i2
    have h3 : ¬ c.toNat = 43 := by have := hcd.1; omega
    simp only [h2, h3, or_self, not_false_eq_true, true_and, false_and, if_false]
    rw [e]
    simp only []
    rw [if_neg (by omega)]
theorem Evt.uniq {α : Type} {f : Nat → Option α} {a b : α} (h : Evt f a) (k : Evt f b) : a = b := by
  obtain ⟨K, h⟩ := h; obtain ⟨J, k⟩ := k
  have h1 := h (K + J) (by omega); have h2 := k (K + J) (by omega)
  rw [h1] at h2; exact Option.some.inj h2
open Classical in
/-- What is computed, where something is. -/
noncomputable def evV {α : Type} [Inhabited α] (f : Nat → Option α) : α := if h : ∃ a, Evt f a then Classical.choose h else default
theorem evV_ev {α : Type} [Inhabited α] {f : Nat → Option α} {a : α} (h : Evt f a) : Evt f (evV f) := by
  unfold evV
  have h' : ∃ a, Evt f a := ⟨a, h⟩
  rw [dif_pos h']; exact Classical.choose_spec h'
theorem evV_eq {α : Type} [Inhabited α] {f : Nat → Option α} {a : α} (h : Evt f a) : evV f = a := Evt.uniq (evV_ev h) h
theorem sz_of {x : ByteArray} (h : decide (1048576 < (x.size : Int)) = false) : x.size ≤ 1048576 := by have := of_decide_eq_false h; omega
theorem mk_extract (l : List UInt8) (a b : Nat) : (mkB l).extract a b = mkB ((l.take b).drop a) := by
  apply ByteArray.ext
  rw [ByteArray.data_extract]
  apply Array.ext'
  simp [mkB, List.drop_take]
theorem bt_mk (l : List UInt8) (i : Nat) (h : i < l.length) : bt (mkB l) (i : Int) = (l[i].toNat : Int) := by
  unfold bt mkB
  simp [List.getD_eq_getElem?_getD, List.getElem?_eq_getElem h]
theorem mk_inj {a b : List UInt8} (h : mkB a = mkB b) : a = b := by
  have := congrArg (fun x : ByteArray => x.data.toList) h
  simpa [mkB] using this
theorem sEq_mk {a b : List UInt8} : sEq (mkB a) (mkB b) = true ↔ a = b := by rw [sEq_iff]; exact ⟨mk_inj, fun h => by rw [h]⟩
theorem sEq_mkf {a b : List UInt8} (h : a ≠ b) : sEq (mkB a) (mkB b) = false := by
  cases e : sEq (mkB a) (mkB b)
  · rfl
  · exact absurd (sEq_mk.1 e) h
theorem mk_of (x : ByteArray) : x = mkB x.data.toList := by apply ByteArray.ext; simp [mkB]
theorem splitB_mk (c : UInt8) (l : List UInt8) : Lib.splitB (mkB [c]) 0 (Lib.countB (mkB l) (mkB [c])) (mkB l) = (cutA c [] l).map mkB := by
  have h := Lib.splitB_data (mkB [c]) 0 (Lib.countB (mkB l) (mkB [c])) (mkB l)
  have e : Lib.splitK (mkB [c]).data.toList 0 (Lib.countB (mkB l) (mkB [c])) (mkB l).data.toList = cutA c [] l := split_cutA c l
  rw [e] at h
  rw [← h, List.map_map]
  have e2 : (mkB ∘ fun x : ByteArray => x.data.toList) = id := by funext x; exact (mk_of x).symm
  rw [e2, List.map_id]
theorem strings_Split_ev (l : List UInt8) (c : UInt8) (h : l.length ≤ 1048576) : Evt (fun k => strings_Split.f k (mkB l) (mkB [c])) ((cutA c [] l).map mkB) := by
  refine Evt.chk ?_ (Evt.ret (splitB_mk c l))
  rw [mkB_size, mkB_size, Bool.and_eq_true]
  exact ⟨decide_eq_true (by simp), decide_eq_true (by omega)⟩
theorem five {α : Type} {ws : List α} (h : ws.length = 5) : ∃ a b c d e, ws = [a, b, c, d, e] := by
  match ws, h with
  | [a, b, c, d, e], _ => exact ⟨a, b, c, d, e, rfl⟩
theorem five_sz {c : UInt8} {l w0 w1 w2 w3 w4 : List UInt8} (h : cutA c [] l = [w0, w1, w2, w3, w4]) : l = w0 ++ [c] ++ w1 ++ [c] ++ w2 ++ [c] ++ w3 ++ [c] ++ w4 := by
  have := cutA_join c l []
  rw [h, join5] at this
  simpa using this.symm
theorem cut_dgs {c : UInt8} (hc : ¬ isDg c) (xs : List Int) (h : xs ≠ []) : cutA c [] (Lib.join (xs.map dgL) [c]) = xs.map dgL := by
  cases xs with
  | nil => exact absurd rfl h
  | cons x r => exact cutA_of_join c (dgL x) (r.map dgL) (fun p hp => by
      obtain ⟨y, _, rfl⟩ := List.mem_map.1 (show p ∈ (x :: r).map dgL from hp)
      exact dg_no hc y)
theorem neg_self {a : List UInt8} : (!sEq (mkB a) (mkB a)) = false := by rw [sEq_mk.2 rfl]; rfl
theorem two {α : Type} {ws : List α} (h : ws.length = 2) : ∃ a b, ws = [a, b] := by
  match ws, h with
  | [a, b], _ => exact ⟨a, b, rfl⟩
theorem two_sz {c : UInt8} {l w0 w1 : List UInt8} (h : cutA c [] l = [w0, w1]) : l = w0 ++ [c] ++ w1 := by
  have := cutA_join c l []
  rw [h] at this
  simpa [Lib.join_cons, Lib.joinTail] using this.symm
theorem cut2 {c : UInt8} {a b : List UInt8} (ha : c ∉ a) (hb : c ∉ b) : cutA c [] (a ++ [c] ++ b) = [a, b] := by
  have h := cutA_of_join c a [b] (fun p hp => by
    simp only [List.mem_cons, List.not_mem_nil, or_false] at hp
    rcases hp with rfl | rfl
    · exact ha
    · exact hb)
  rw [Lib.join_cons] at h
  simpa [Lib.joinTail] using h
theorem len_in_lens {p : List UInt8} : ∀ {ws : List (List UInt8)}, p ∈ ws → p.length ≤ Lib.lens ws
  | [], h => by simp at h
  | x :: r, h => by
    have e2 : Lib.lens (x :: r) = x.length + Lib.lens r := by simp [Lib.lens]
    rw [e2]
    rcases List.mem_cons.1 h with rfl | h
    · omega
    · have := len_in_lens h; omega
theorem cut_word_lt {c : UInt8} {l p : List UInt8} {ws : List (List UInt8)} (h : cutA c [] l = ws) (h2 : 2 ≤ ws.length) (hp : p ∈ ws) : p.length + 1 ≤ l.length := by
  have hj := cutA_join c l []
  rw [h] at hj
  have hl := len_in_lens hp
  cases ws with
  | nil => simp at h2
  | cons x r =>
    have e := congrArg List.length hj
    rw [Lib.join_length] at e
    simp only [List.length_cons, List.nil_append, List.length_nil] at e h2
    have e2 : Lib.lens (x :: r) = x.length + Lib.lens r := by simp [Lib.lens]
    rw [e2] at hl
    omega
/-! ### Draws -/
def codeOK (c : List Int) : Prop := c.length ≤ 1048576 ∧ ∀ x ∈ c, 0 ≤ x ∧ x ≤ 255
theorem source_ev (c : List Int) : Evt (fun k => spec_l1Source.f k c) 0 := Evt.self _
theorem w_in {a : Int} (h : 0 ≤ a ∧ a ≤ 1000000000000) : wrap64 a = a := wrap64_in _ (by omega)
theorem gt_code {c : List Int} (hc : codeOK c) {i : Int} (h0 : 0 ≤ i) (h1 : i < c.length) : 0 ≤ gt c i ∧ gt c i ≤ 255 := by
  have e : gt c i = c[i.toNat]'(by omega) := gt_eq (by omega)
  rw [e]; exact hc.2 _ (List.getElem_mem _)
theorem next_ev (c : List Int) (a n : Int) (hc : codeOK c) (ha : 0 ≤ a ∧ a ≤ 1000000) (hn : 1 ≤ n ∧ n ≤ 1000000) : ∃ v, Evt (fun k => spec_l1Next.f k ⟨c, a⟩ n) (v, a + 1) ∧ 0 ≤ v ∧ v < n := by
  have e1 : wrap64 (a + 1) = a + 1 := w_in (by omega)
  have e2 : wrap64 (a + 1 - 1) = a := by rw [show a + 1 - 1 = a by omega]; exact w_in (by omega)
  have hn1 : decide (n < 1) = false := by simp; omega
  have hn0 : (n != 0) = true := by rw [bne_iff_ne]; omega
  unfold spec_l1Next.f
  simp only [e1, e2]
  by_cases hl : c.length = 0
  · have e3 : wrap64 (a * 7) = a * 7 := w_in (by omega)
    refine ⟨Int.tmod (a * 7) n, Evt.f hn1 (Evt.t (by rw [hl]; rfl) (Evt.chk hn0 (Evt.ret (by rw [e3])))), Int.tmod_nonneg _ (by omega), Int.tmod_lt_of_pos _ (by omega)⟩
  · have hlp : (0 : Int) < (c.length : Int) := by omega
    have hcl := hc.1
    have hl0 : ((c.length : Int) == 0) = false := by simpa using hl
    have hln : ((c.length : Int) != 0) = true := by rw [bne_iff_ne]; omega
    have i0 := Int.tmod_nonneg (a := a) (c.length : Int) ha.1
    have i1 := Int.tmod_lt_of_pos a hlp
    have g1 := gt_code hc i0 i1
    have hq : IntKind.i64.wrap (Int.tdiv a (c.length : Int)) = a / (c.length : Int) := i64_quo _ _ ⟨ha.1, by omega, by omega⟩
    have q0 : 0 ≤ a / (c.length : Int) := Int.ediv_nonneg ha.1 (by omega)
    have q1 : a / (c.length : Int) ≤ a := Int.ediv_le_self _ ha.1
    have hi : idxOk (Int.tmod a (c.length : Int)) c.length = true := by unfold idxOk; simp; omega
    have ea : wrap64 (gt c (Int.tmod a (c.length : Int))) = gt c (Int.tmod a (c.length : Int)) := w_in (by omega)
    have eb : wrap64 ((a / (c.length : Int)) * 37) = (a / (c.length : Int)) * 37 := w_in (by omega)
    have ec : wrap64 (gt c (Int.tmod a (c.length : Int)) + (a / (c.length : Int)) * 37) = gt c (Int.tmod a (c.length : Int)) + (a / (c.length : Int)) * 37 := w_in (by omega)
    simp only [hq, ea, eb, ec]
    by_cases h2 : 200 < n
    · have e3 : wrap64 (a + 1) = a + 1 := e1
      have j0 := Int.tmod_nonneg (a := a + 1) (c.length : Int) (by omega)
      have j1 := Int.tmod_lt_of_pos (a + 1) hlp
      have g2 := gt_code hc j0 j1
      have hj : idxOk (Int.tmod (a + 1) (c.length : Int)) c.length = true := by unfold idxOk; simp; omega
      have w1 := w_in (a := (gt c (Int.tmod a (c.length : Int)) + (a / (c.length : Int)) * 37) * 251) (by omega)
      have w2 : wrap64 (gt c (Int.tmod (a + 1) (c.length : Int))) = gt c (Int.tmod (a + 1) (c.length : Int)) := w_in (by omega)
      have w3 := w_in (a := gt c (Int.tmod (a + 1) (c.length : Int)) * 13) (by omega)
      simp only [w1, w2, w3]
      have w4 := w_in (a := (gt c (Int.tmod a (c.length : Int)) + (a / (c.length : Int)) * 37) * 251 + gt c (Int.tmod (a + 1) (c.length : Int)) * 13) (by omega)
      simp only [w4]
      have w5 := w_in (a := (gt c (Int.tmod a (c.length : Int)) + (a / (c.length : Int)) * 37) * 251 + gt c (Int.tmod (a + 1) (c.length : Int)) * 13 + a) (by omega)
      simp only [w5]
      exact ⟨_, Evt.f hn1 (Evt.f hl0 (Evt.chk hln (Evt.chk hi (Evt.chk hln (Evt.t (decide_eq_true h2) (Evt.chk hln (Evt.chk hj (Evt.chk hn0 (Evt.self _))))))))), Int.tmod_nonneg _ (by omega), Int.tmod_lt_of_pos _ (by omega)⟩
    · exact ⟨_, Evt.f hn1 (Evt.f hl0 (Evt.chk hln (Evt.chk hi (Evt.chk hln (Evt.f (decide_eq_false h2) (Evt.chk hn0 (Evt.self _))))))), Int.tmod_nonneg _ (by omega), Int.tmod_lt_of_pos _ (by omega)⟩
def spec_l4Among_v (x0 : List Int) (x1 : Int) : Bool := (onO ((List.range' 0 (x0.length - 0)).findSome? (fun (i0 : Nat) => (bif ((gt x0 (i0 : Int)) == x1) then (some true) else none))) (fun r => r) false)
theorem spec_l4Among_ev (x0 : List Int) (x1 : Int) (h_x0 : (Lm tr) x0) : Evt (fun k => spec_l4Among.f k x0 x1) (spec_l4Among_v x0 x1) :=
  (Evt.loop (r' := fun r => r) (Evt.srch (L := (fun k i => spec_l4Among.l0 x0 x1 k i)) 0 x0.length (by have := h_x0; first | (have := this.1; omega) | omega) (fun (i0 : Nat) => (bif ((gt x0 (i0 : Int)) == x1) then (some true) else none)) (fun i0 hs2 hi2 => by
  have hbn : x0.length ≤ 9223372036854775807 := (by have := h_x0; first | (have := this.1; omega) | omega)
  simp only [spec_l4Among.l0_s]
  exact Evt_t2 (int_lt hi2) (StE.chk (by first | exact idx_ok (by omega) | exact idx_ok (by have hq := len_eq (by assumption); omega) | exact idx_found (show (0 : Int) ≤ (i0 : Int) by simp_all) | exact cut_ok (by omega) | exact or_ok (idx_ok (by omega)) | (refine or1 (fun hz => pre_ok (by simp at hz; omega) (by omega) (by omega))) | exact pre_ok (by omega) (by omega) (by omega) | (simp_all [idxOk, cutOk, leB]; done) | (simp_all [idxOk, cutOk, leB]; omega) | (simp [idxOk, cutOk, leB] at *; omega) | (have hf0 := h_x0.1; simp only [leB, decide_eq_true_eq, List.length_append, List.length_cons, List.length_nil]; omega)) (StE.ifh (fun hc1 => (StE.ret _)) (fun hc1 => StE.next)))) (fun j hj => by
  simp only [spec_l4Among.l0_s]
  exact Evt.f (ge_lt hj) (Evt.self _))) (fun _ => rfl) (Evt.self _))
def spec_l1In_v (x0 : Int) (x1 : Int) (x2 : Int) : Bool := ((decide (x1 ≤ x0)) && (decide (x0 ≤ x2)))
theorem spec_l1In_ev (x0 : Int) (x1 : Int) (x2 : Int)  : Evt (fun k => spec_l1In.f k x0 x1 x2) (spec_l1In_v x0 x1 x2) :=
  (Evt.self _)
def spec_l1Key_v (x0 : Int) : Bool := (spec_l1In_v x0 1 999)
theorem spec_l1Key_ev (x0 : Int)  : Evt (fun k => spec_l1Key.f k x0) (spec_l1Key_v x0) :=
  (Evt.bind (spec_l1In_ev x0 1 999) (Evt.self _))
def spec_l7Fault_v (x0 : Block) : Int := (bif (((!(spec_l1In_v x0.fPrev 0 60)) || (!(bif (!(!(spec_l1In_v x0.fPrev 0 60))) then (spec_l1In_v x0.fHeight 1 40) else default))) || (!(bif (!((!(spec_l1In_v x0.fPrev 0 60)) || (!(bif (!(!(spec_l1In_v x0.fPrev 0 60))) then (spec_l1In_v x0.fHeight 1 40) else default)))) then (spec_l1Key_v x0.fMiner) else default))) then 3 else (bif ((x0.fPrev == 0) != (x0.fHeight == 1)) then 1 else (bif (decide (6 < (x0.fTxs.length : Int))) then 2 else (onO ((List.range' 0 (x0.fTxs.length - 0)).findSome? (fun (i0 : Nat) => (bif !(spec_l1In_v (gt x0.fTxs (i0 : Int)) 1 60) then (some 3) else (bif (spec_l4Among_v (x0.fTxs.take ((i0 : Int)).toNat) (gt x0.fTxs (i0 : Int))) then (some 7) else none)))) (fun r => r) 0))))
theorem spec_l7Fault_ev (x0 : Block) (h_x0 : smBlock x0) : Evt (fun k => spec_l7Fault.f k x0) (spec_l7Fault_v x0) :=
  (Evt.bind (spec_l1In_ev x0.fPrev 0 60) (Evt.bind (Evt.ifh (fun _ => (spec_l1In_ev x0.fHeight 1 40)) (fun _ => Evt.self _)) (Evt.bind (Evt.ifh (fun _ => (spec_l1Key_ev x0.fMiner)) (fun _ => Evt.self _)) (Evt.ifh (fun hc5 => (Evt.self _)) (fun hc5 => (Evt.ifh (fun hc4 => (Evt.self _)) (fun hc4 => (Evt.ifh (fun hc3 => (Evt.self _)) (fun hc3 => (Evt.loop (r' := fun r => r) (Evt.srch (L := (fun k i => spec_l7Fault.l0 x0 k i)) 0 x0.fTxs.length (by have := h_x0.2.2.2; first | (have := this.1; omega) | omega) (fun (i0 : Nat) => (bif !(spec_l1In_v (gt x0.fTxs (i0 : Int)) 1 60) then (some 3) else (bif (spec_l4Among_v (x0.fTxs.take ((i0 : Int)).toNat) (gt x0.fTxs (i0 : Int))) then (some 7) else none))) (fun i0 hs3 hi3 => by
  have hbn : x0.fTxs.length ≤ 9223372036854775807 := (by have := h_x0.2.2.2; first | (have := this.1; omega) | omega)
  simp only [spec_l7Fault.l0_s]
  exact Evt_t2 (int_lt hi3) (StE.chk (by first | exact idx_ok (by omega) | exact idx_ok (by have hq := len_eq (by assumption); omega) | exact idx_found (show (0 : Int) ≤ (i0 : Int) by simp_all) | exact cut_ok (by omega) | exact or_ok (idx_ok (by omega)) | (refine or1 (fun hz => pre_ok (by simp at hz; omega) (by omega) (by omega))) | exact pre_ok (by omega) (by omega) (by omega) | (simp_all [idxOk, cutOk, leB]; done) | (simp_all [idxOk, cutOk, leB]; omega) | (simp [idxOk, cutOk, leB] at *; omega) | (have hf0 := h_x0.2.2.2.1; simp only [leB, decide_eq_true_eq, List.length_append, List.length_cons, List.length_nil]; omega)) (StE.bind (spec_l1In_ev (gt x0.fTxs (i0 : Int)) 1 60) (StE.ifh (fun hc2 => (StE.ret _)) (fun hc2 => (StE.chk (by first | exact idx_ok (by omega) | exact idx_ok (by have hq := len_eq (by assumption); omega) | exact idx_found (by simp_all) | exact cut_ok (by omega) | exact or_ok (idx_ok (by omega)) | (refine or1 (fun hz => pre_ok (by simp at hz; omega) (by omega) (by omega))) | exact pre_ok (by omega) (by omega) (by omega) | (simp_all [idxOk, cutOk, leB]; done) | (simp_all [idxOk, cutOk, leB]; omega) | (simp [idxOk, cutOk, leB] at *; omega) | (have hf0 := h_x0.2.2.2.1; simp only [leB, decide_eq_true_eq, List.length_append, List.length_cons, List.length_nil]; omega)) (StE.chk (by first | exact idx_ok (by omega) | exact idx_ok (by have hq := len_eq (by assumption); omega) | exact idx_found (show (0 : Int) ≤ (i0 : Int) by simp_all) | exact cut_ok (by omega) | exact or_ok (idx_ok (by omega)) | (refine or1 (fun hz => pre_ok (by simp at hz; omega) (by omega) (by omega))) | exact pre_ok (by omega) (by omega) (by omega) | (simp_all [idxOk, cutOk, leB]; done) | (simp_all [idxOk, cutOk, leB]; omega) | (simp [idxOk, cutOk, leB] at *; omega) | (have hf0 := h_x0.2.2.2.1; simp only [leB, decide_eq_true_eq, List.length_append, List.length_cons, List.length_nil]; omega)) (StE.bind (spec_l4Among_ev (x0.fTxs.take ((i0 : Int)).toNat) (gt x0.fTxs (i0 : Int)) ((Lm_take h_x0.2.2.2))) (StE.ifh (fun hc1 => (StE.ret _)) (fun hc1 => StE.next)))))))))) (fun j hj => by
  simp only [spec_l7Fault.l0_s]
  exact Evt.f (ge_lt hj) (Evt.self _))) (fun _ => rfl) (Evt.self _)))))))))))
/-! ### A block's text, as bytes -/
def blockL (b : Block) : List UInt8 := [98, 108, 111, 99, 107, 32] ++ dgL b.fPrev ++ [32] ++ dgL b.fHeight ++ [32] ++ dgL b.fMiner ++ [32] ++ (bif (b.fTxs.length : Int) == 0 then [45] else Lib.join (b.fTxs.map dgL) [43])
structure BlockOK (b : Block) : Prop where
  prev : 0 ≤ b.fPrev ∧ b.fPrev ≤ 60
  height : 1 ≤ b.fHeight ∧ b.fHeight ≤ 40
  miner : 1 ≤ b.fMiner ∧ b.fMiner ≤ 999
  n6 : b.fTxs.length ≤ 6
  txs : ∀ x ∈ b.fTxs, 1 ≤ x ∧ x ≤ 60
theorem block_ok (x0 : Block) (h : (spec_l7Fault_v x0 != 0) = false) : BlockOK x0 := by
  have h0 : spec_l7Fault_v x0 = 0 := by simpa using h
  unfold spec_l7Fault_v at h0
  cases ha : spec_l1In_v x0.fPrev 0 60
  · rw [ha] at h0; exact absurd (show (3 : Int) = 0 from h0) (by decide)
  cases hb : spec_l1In_v x0.fHeight 1 40
  · rw [ha, hb] at h0; exact absurd (show (3 : Int) = 0 from h0) (by decide)
  cases hc : spec_l1Key_v x0.fMiner
  · rw [ha, hb, hc] at h0; exact absurd (show (3 : Int) = 0 from h0) (by decide)
  rw [ha, hb, hc] at h0
  cases hd : ((x0.fPrev == 0) != (x0.fHeight == 1))
  · rw [hd] at h0
    cases he : decide (6 < (x0.fTxs.length : Int))
    · rw [he] at h0
      have h1 : onO ((List.range' 0 (x0.fTxs.length - 0)).findSome? (fun (i0 : Nat) => (bif !(spec_l1In_v (gt x0.fTxs (i0 : Int)) 1 60) then (some (3 : Int)) else (bif (spec_l4Among_v (x0.fTxs.take ((i0 : Int)).toNat) (gt x0.fTxs (i0 : Int))) then (some 7) else none)))) (fun r => r) 0 = 0 := h0
      obtain ⟨h2, _⟩ := onO_zero h1 (fun i => by
        cases spec_l1In_v (gt x0.fTxs (i : Int)) 1 60
        · simp
        · cases spec_l4Among_v (x0.fTxs.take ((i : Int)).toNat) (gt x0.fTxs (i : Int)) <;> simp)
      have hk := fs_all h2
      simp only [spec_l1In_v, spec_l1Key_v, Bool.and_eq_true, decide_eq_true_eq] at ha hb hc
      have he' := of_decide_eq_false he
      refine ⟨ha, hb, hc, by omega, fun x hx => ?_⟩
      obtain ⟨i, hi, rfl⟩ := List.getElem_of_mem hx
      have h4 := hk i hi
      rw [gt_eq (by simpa using hi)] at h4
      cases h5 : spec_l1In_v x0.fTxs[i] 1 60
      · simp only [Int.toNat_natCast] at h4; rw [h5] at h4; cases h4
      · simp only [spec_l1In_v, Bool.and_eq_true, decide_eq_true_eq] at h5
        exact h5
    · rw [he] at h0; exact absurd (show (2 : Int) = 0 from h0) (by decide)
  · rw [hd] at h0; exact absurd (show (1 : Int) = 0 from h0) (by decide)
def zBlock : Block := ⟨0, 0, 0, []⟩
theorem blockL_len (b : Block) (hb : BlockOK b) : (blockL b).length ≤ 50 := by
  have h1 := dg_l2 (n := b.fPrev) (by have := hb.prev; omega)
  have h2 := dg_l2 (n := b.fHeight) (by have := hb.height; omega)
  have h3 := dg_l3 (n := b.fMiner) (by have := hb.miner; omega)
  have hk := join_le (m := 2) (n := 6) (sep := [43]) (xs := b.fTxs.map dgL) (by
    intro x hx
    obtain ⟨y, hy, rfl⟩ := List.mem_map.1 hx
    have := hb.txs y hy
    exact dg_l2 (by omega)) (by rw [List.length_map]; exact hb.n6)
  simp only [List.length_cons, List.length_nil] at hk
  unfold blockL
  cases (b.fTxs.length : Int) == 0
  · simp only [cond_false, List.length_append, List.length_cons, List.length_nil]; omega
  · simp only [cond_true, List.length_append, List.length_cons, List.length_nil]; omega
/-- A block's words. -/
def blockW (b : Block) : List UInt8 := bif (b.fTxs.length : Int) == 0 then [45] else Lib.join (b.fTxs.map dgL) [43]
theorem blockL_words (b : Block) : blockL b = Lib.join [[98, 108, 111, 99, 107], dgL b.fPrev, dgL b.fHeight, dgL b.fMiner, blockW b] [32] := by
  rw [join5]; unfold blockL blockW; simp [List.append_assoc]
theorem block_cut (b : Block) : cutA 32 [] (blockL b) = [[98, 108, 111, 99, 107], dgL b.fPrev, dgL b.fHeight, dgL b.fMiner, blockW b] := by
  rw [blockL_words]
  refine cutA_of_join 32 _ _ (fun p hp => ?_)
  simp only [List.mem_cons, List.not_mem_nil, or_false] at hp
  rcases hp with rfl | rfl | rfl | rfl | rfl
  · decide
  · exact dg_no nodg _
  · exact dg_no nodg _
  · exact dg_no nodg _
  · unfold blockW
    cases (b.fTxs.length : Int) == 0
    · intro h
      rcases mem_join h with h | ⟨p, hp, h⟩
      · exact absurd h (by decide)
      · obtain ⟨x, _, rfl⟩ := List.mem_map.1 hp
        exact dg_no nodg _ h
    · show (32 : UInt8) ∉ [45]
      decide
theorem txs_cut (b : Block) (h : ((b.fTxs.length : Int) == 0) = false) : cutA 43 [] (blockW b) = b.fTxs.map dgL ∧ blockW b ≠ [45] ∧ b.fTxs ≠ [] := by
  have hne : b.fTxs ≠ [] := fun e => by rw [e] at h; cases h
  unfold blockW
  rw [h]
  refine ⟨cut_dgs nodg _ hne, fun e => ?_, hne⟩
  cases hx : b.fTxs with
  | nil => exact hne hx
  | cons x r =>
    rw [hx, List.map_cons, Lib.join_cons] at e
    have hp := dg_pos x
    have hd := (dec_is x.toNat).1
    cases hc : dgL x with
    | nil => rw [hc] at hp; simp at hp
    | cons a l =>
      rw [hc] at e
      have ha : isDg a := hd a (by have : a ∈ dgL x := by rw [hc]; simp
                                   exact this)
      have : a = 45 := (List.cons.inj e).1
      rw [this] at ha
      exact absurd ha (by decide)
theorem l7Draw_loop (c : List Int) (z : l1Src) (hz : z.fCode = c) (hc : codeOK c) : ∀ (d : Nat) (a : Int) (txs : List Int), 0 ≤ a → a + d ≤ 1000 → txs.length + d ≤ 3 → (∀ x ∈ txs, 1 ≤ x ∧ x ≤ 60) → ∃ a' txs', Evt (fun k => spec_l7Draw.l0 z k a txs (d : Int)) (a', txs') ∧ a ≤ a' ∧ a' ≤ a + d ∧ txs'.length ≤ 3 ∧ ∀ x ∈ txs', 1 ≤ x ∧ x ≤ 60
  | 0, a, txs, h0, h1, h2, h3 => by
    refine ⟨a, txs, Evt.s ?_, by omega, by omega, by omega, h3⟩
    simp only [spec_l7Draw.l0_s]
    exact Evt.f rfl (Evt.self _)
  | d + 1, a, txs, h0, h1, h2, h3 => by
    obtain ⟨v, ev, v0, v1⟩ := next_ev c a 20 hc (by omega) (by omega)
    have hd : decide ((0 : Int) < ((d + 1 : Nat) : Int)) = true := decide_eq_true (by omega)
    have ew : wrap64 (((d + 1 : Nat) : Int) - 1) = (d : Int) := by rw [wrap64_in _ (by omega)]; omega
    have e1 : wrap64 (1 + v) = 1 + v := w_in (by omega)
    have ea := spec_l4Among_ev txs (1 + v) ⟨by omega, fun _ _ => trivial⟩
    cases hm : spec_l4Among_v txs (1 + v)
    · obtain ⟨a', txs', e, q1, q2, q3, q4⟩ := l7Draw_loop c z hz hc d (a + 1) (txs ++ [1 + v]) (by omega) (by omega) (by simp; omega) (fun x hx => by
        rcases List.mem_append.1 hx with hx | hx
        · exact h3 x hx
        · simp at hx; omega)
      refine ⟨a', txs', Evt.s ?_, by omega, by omega, q3, q4⟩
      simp only [spec_l7Draw.l0_s, hz]
      refine Evt.t hd (Evt.bind ev ?_)
      simp only [e1, ew]
      exact Evt.bind ea (Evt.t (by rw [hm]; rfl) (Evt.chk (leB_mk2 (by simp; omega)) e))
    · obtain ⟨a', txs', e, q1, q2, q3, q4⟩ := l7Draw_loop c z hz hc d (a + 1) txs (by omega) (by omega) (by omega) h3
      refine ⟨a', txs', Evt.s ?_, by omega, by omega, q3, q4⟩
      simp only [spec_l7Draw.l0_s, hz]
      refine Evt.t hd (Evt.bind ev ?_)
      simp only [e1, ew]
      exact Evt.bind ea (Evt.f (by rw [hm]; rfl) e)
theorem l7Draw_ev (c : List Int) (a : Int) (hc : codeOK c) (h0 : 0 ≤ a) (h1 : a ≤ 900) : ∃ b a', Evt (fun k => spec_l7Draw.f k ⟨c, a⟩) (b, a') ∧ a ≤ a' ∧ a' ≤ a + 10 ∧ BlockOK b := by
  obtain ⟨v1, e1, p1, q1⟩ := next_ev c a 9 hc (by omega) (by omega)
  obtain ⟨v2, e2, p2, q2⟩ := next_ev c (a + 1) 9 hc (by omega) (by omega)
  obtain ⟨v3, e3, p3, q3⟩ := next_ev c (a + 1 + 1) 4 hc (by omega) (by omega)
  obtain ⟨v4, e4, p4, q4⟩ := next_ev c (a + 1 + 1 + 1) 4 hc (by omega) (by omega)
  obtain ⟨n, rfl⟩ : ∃ n : Nat, v4 = n := ⟨v4.toNat, by omega⟩
  obtain ⟨a', txs, e5, r1, r2, r3, r4⟩ := l7Draw_loop c ⟨c, a⟩ rfl hc n (a + 1 + 1 + 1 + 1) [] (by omega) (by omega) (by simp; omega) (by simp)
  have w2 : wrap64 (2 + v2) = 2 + v2 := w_in (by omega)
  have w3 : wrap64 (1 + v3) = 1 + v3 := w_in (by omega)
  obtain ⟨h, eh, hh⟩ : ∃ h : Int, Evt (fun _ : Nat => (bif (v1 == 0) then some (1 : Int) else some (wrap64 (2 + v2)))) h ∧ 1 ≤ h ∧ h ≤ 40 := by
    cases v1 == 0
    · exact ⟨2 + v2, Evt.ret w2, by omega, by omega⟩
    · exact ⟨1, Evt.self _, by omega, by omega⟩
  refine ⟨⟨v1, h, 1 + v3, txs⟩, a', ?_, by omega, by omega, ⟨⟨p1, by show v1 ≤ 60; omega⟩, hh, ⟨by show 1 ≤ 1 + v3; omega, by show 1 + v3 ≤ 999; omega⟩, by show txs.length ≤ 6; omega, r4⟩⟩
  refine Evt.bind e1 (Evt.bind e2 (Evt.bind e3 (Evt.bind eh (Evt.bind (Evt.bind e4 e5) (Evt.ret ?_)))))
  show ((⟨v1, h, wrap64 (1 + v3), txs⟩ : Block), a') = _
  rw [w3]
theorem spec_l2Digits_ev (n : Int) (h0 : 0 ≤ n) (h1 : n ≤ 1000000) : Evt (fun k => spec_l2Digits.f k n) (mkB (dgL n)) := by
  have key : ∀ u : Nat, u ≤ 1000000 → Evt (fun k => spec_l2Digits.f k (u : Int)) (mkB (Lib.decDigits u)) := by
    intro u
    induction u using Nat.strongRecOn with
    | _ u ih =>
      intro hu
      refine Evt.s ?_
      simp only [spec_l2Digits.f_s]
      by_cases h : u < 10
      · have e1 : IntKind.u8.wrap (wrap64 (48 + (u : Int))) = ((48 + u : Nat) : Int) := by rw [wrap64_in _ (by omega), u8_in _ (by omega)]; omega
        rw [e1, Lib.decDigits, dif_pos h]
        exact Evt.t (by simp; omega) (Evt.self _)
      · have e1 : IntKind.i64.wrap (Int.tdiv (u : Int) 10) = ((u / 10 : Nat) : Int) := by rw [i64_quo _ _ ⟨by omega, by omega, by omega⟩]; omega
        have e0 : Int.tmod (u : Int) 10 = ((u % 10 : Nat) : Int) := by rw [rem_in _ _ (by omega)]; omega
        have e2 : IntKind.u8.wrap (wrap64 (48 + (Int.tmod (u : Int) 10))) = ((48 + u % 10 : Nat) : Int) := by rw [e0, wrap64_in _ (by omega), u8_in _ (by omega)]; omega
        have hl' : (Lib.decDigits (u / 10)).length ≤ u / 10 + 1 := by
          have hl := dgL_len ((u / 10 : Nat) : Int) (u / 10) (Int.toNat_natCast _)
          unfold dgL at hl
          rw [Int.toNat_natCast] at hl
          exact hl
        refine Evt.f (by simp; omega) (Evt.chk rfl (Evt.chk rfl ?_))
        rw [e1, e2]
        have e3 : strOfNums ([((48 + u % 10 : Nat) : Int)] : List Int) = mkB [UInt8.ofNat (48 + u % 10)] := rfl
        refine (Evt.bind (ih (u / 10) (by omega) (by omega)) (Evt.chk ?_ (Evt.self _))).to ?_
        · refine decide_eq_true ?_
          rw [mkB_size, e3, mkB_size]; simp; omega
        · rw [e3, mkB_append, Lib.decDigits.eq_1 u, dif_neg h]
  have := key n.toNat (by omega)
  rw [Int.toNat_of_nonneg h0] at this
  exact this
theorem spec_l7Text_round (b : Block) (hb : BlockOK b) (i : Nat) (acc sep : List UInt8) (hlt : i < b.fTxs.length) (hs : sep.length = 1) (hl : acc.length ≤ 100000) (hz : (bif ((i : Int) == 0) then some (⟨#[32]⟩ : ByteArray) else some (⟨#[43]⟩ : ByteArray)) = some (mkB sep)) {r : ByteArray}
    (h : Evt (fun k => spec_l7Text.l0 b k (mkB (acc ++ sep ++ dgL b.fTxs[i])) ((i + 1 : Nat) : Int)) r) : Evt (fun k => spec_l7Text.l0 b k (mkB acc) (i : Int)) r := by
  have hx := hb.txs _ (gt_mem hlt)
  have hd := dg3 (gt b.fTxs (i : Int)) (by omega) (by omega)
  have hg : gt b.fTxs (i : Int) = b.fTxs[i] := gt_eq (by simpa using hlt)
  refine Evt.s ?_
  simp only [spec_l7Text.l0_s, hz, Option.bind_some, mkB_size]
  refine Evt.t (int_lt hlt) (Evt.chk (leB_mk (by omega)) (Evt.chk (idx_ok hlt) (Evt.bind (spec_l2Digits_ev (gt b.fTxs (i : Int)) (by omega) (by omega)) ?_)))
  simp only [mkB_append, mkB_size, List.length_append, List.length_cons, List.length_nil]
  refine Evt.chk (leB_mk (by omega)) ?_
  rw [w64 hlt (by have := hb.n6; omega), hg]
  exact h
theorem spec_l7Text_loop (b : Block) (hb : BlockOK b) : ∀ (d i : Nat) (acc : List UInt8), 1 ≤ i → i + d = b.fTxs.length → acc.length + 1100 * d ≤ 100000 → Evt (fun k => spec_l7Text.l0 b k (mkB acc) (i : Int)) (mkB (acc ++ Lib.joinTail [43] ((b.fTxs.drop i).map dgL)))
  | 0, i, acc, h1, hi, hl => by
    rw [List.drop_of_length_le (by omega)]
    refine Evt.s ?_
    simp only [spec_l7Text.l0_s]
    exact Evt.f (ge_lt (by omega)) (Evt.ret (by simp [Lib.joinTail]))
  | d + 1, i, acc, h1, hi, hl => by
    have hlt : i < b.fTxs.length := by omega
    have hx := hb.txs _ (List.getElem_mem hlt)
    have hd := dg3 b.fTxs[i] (by omega) (by omega)
    have hz : ((i : Int) == 0) = false := by simp; omega
    refine spec_l7Text_round b hb i acc [43] hlt rfl (by omega) (by rw [hz]; rfl) ?_
    refine (spec_l7Text_loop b hb d (i + 1) _ (by omega) (by omega) (by simp only [List.length_append, List.length_cons, List.length_nil]; omega)).to ?_
    have ed : b.fTxs.drop i = b.fTxs[i] :: b.fTxs.drop (i + 1) := List.drop_eq_getElem_cons hlt
    rw [ed, List.map_cons]
    unfold Lib.joinTail
    rw [List.map_cons, List.flatten_cons]
    simp only [List.append_assoc, List.cons_append, List.nil_append]
def spec_l7Text_v (b : Block) : ByteArray := mkB (blockL b)
theorem spec_l7Text_ok (b : Block) (hb : BlockOK b) : Evt (fun k => spec_l7Text.f k b) (spec_l7Text_v b) := by
  have hd1 := dg3 b.fPrev hb.prev.1 (by have := hb.prev; omega)
  have hd2 := dg3 b.fHeight (by have := hb.height; omega) (by have := hb.height; omega)
  have hd3 := dg3 b.fMiner (by have := hb.miner; omega) (by have := hb.miner; omega)
  have c1 : (⟨#[98, 108, 111, 99, 107, 32]⟩ : ByteArray) = mkB [98, 108, 111, 99, 107, 32] := rfl
  have c2 : (⟨#[32]⟩ : ByteArray) = mkB [32] := rfl
  have c3 : (⟨#[32, 45]⟩ : ByteArray) = mkB [32, 45] := rfl
  unfold spec_l7Text.f
  simp only [c1, c2, c3]
  refine Evt.bind (spec_l2Digits_ev b.fPrev hb.prev.1 (by have := hb.prev; omega)) ?_
  simp only [mkB_append, mkB_size, List.length_append, List.length_cons, List.length_nil]
  refine Evt.chk (leB_mk (by omega)) (Evt.chk (leB_mk (by omega)) (Evt.bind (spec_l2Digits_ev b.fHeight (by have := hb.height; omega) (by have := hb.height; omega)) ?_))
  simp only [mkB_append, mkB_size, List.length_append, List.length_cons, List.length_nil]
  refine Evt.chk (leB_mk (by omega)) (Evt.chk (leB_mk (by omega)) (Evt.bind (spec_l2Digits_ev b.fMiner (by have := hb.miner; omega) (by have := hb.miner; omega)) ?_))
  simp only [mkB_append, mkB_size, List.length_append, List.length_cons, List.length_nil]
  refine Evt.chk (leB_mk (by omega)) ?_
  unfold spec_l7Text_v blockL
  cases hz : ((b.fTxs.length : Int) == 0)
  · have hlt : 0 < b.fTxs.length := by
      have : ¬ (b.fTxs.length : Int) = 0 := by simpa using hz
      omega
    have hx := hb.txs _ (List.getElem_mem hlt)
    have hd := dg3 b.fTxs[0] (by omega) (by omega)
    refine Evt.f rfl (Evt.bind (spec_l7Text_round b hb 0 _ [32] hlt rfl (by simp only [List.length_append, List.length_cons, List.length_nil]; omega) rfl (spec_l7Text_loop b hb (b.fTxs.length - 1) 1 _ (by omega) (by omega) (by have := hb.n6; simp only [List.length_append, List.length_cons, List.length_nil]; omega))) (Evt.ret ?_))
    have ed : b.fTxs = b.fTxs[0] :: b.fTxs.drop 1 := by simpa using List.drop_eq_getElem_cons hlt
    have ej : Lib.join (b.fTxs.map dgL) [43] = dgL b.fTxs[0] ++ Lib.joinTail [43] ((b.fTxs.drop 1).map dgL) := by
      conv => lhs; rw [ed]
      rw [List.map_cons, Lib.join_cons]
    rw [ej]
    simp [List.append_assoc]
  · refine Evt.t rfl (Evt.chk (leB_mk (by omega)) (Evt.ret ?_))
    simp [List.append_assoc]
theorem spec_l7Text_ev (b : Block) (hb0 : smBlock b) (hpre : (spec_l7Fault_v b != 0) = false) : Evt (fun k => spec_l7Text.f k b) (spec_l7Text_v b) := spec_l7Text_ok b (block_ok b hpre)
theorem pick_ev (c : List Int) (a : Int) (l : List Int) (hc : codeOK c) (ha : 0 ≤ a ∧ a ≤ 1000000) (hl : 1 ≤ l.length ∧ l.length ≤ 1000000) : ∃ v, Evt (fun k => spec_l1Pick.f k ⟨c, a⟩ l) (v, a + 1) ∧ v ∈ l := by
  obtain ⟨v, e, h0, h1⟩ := next_ev c a (l.length : Int) hc ha (by omega)
  refine ⟨gt l v, Evt.bind e (Evt.chk (by unfold idxOk; simp; omega) (Evt.self _)), ?_⟩
  have e2 : gt l v = l[v.toNat]'(by omega) := gt_eq (by omega)
  rw [e2]; exact List.getElem_mem _
theorem sn_mk (l : List UInt8) : strNums (mkB l) = l.map fun b => (b.toNat : Int) := by simp [strNums, mkB]
theorem son_sz (xs : List Int) : (strOfNums xs).size = xs.length := by simp [strOfNums, ByteArray.size]
theorem DrawParseBlock_ev (c : List Int) (hc : codeOK c) : ∃ t : ByteArray, Evt (fun k => spec_DrawParseBlock.f k c) t ∧ t.size ≤ 1000 := by
  obtain ⟨b, a1, e1, _, h1, hb⟩ := l7Draw_ev c 0 hc (by omega) (by omega)
  obtain ⟨v, e2, v0, v1⟩ := next_ev c a1 5 hc (by omega) (by omega)
  have et : Evt (fun k => spec_l7Text.f k b) (mkB (blockL b)) := spec_l7Text_ok b hb
  have hl := blockL_len b hb
  have hp : 1 ≤ (blockL b).length := by unfold blockL; simp
  have hn : (strNums (mkB (blockL b))).length = (blockL b).length := by rw [sn_mk, List.length_map]
  obtain ⟨w, e3, w0, w1⟩ := next_ev c (a1 + 1) ((strNums (mkB (blockL b))).length : Int) hc (by omega) (by omega)
  obtain ⟨u, e4, _⟩ := pick_ev c (a1 + 1 + 1) [48, 32, 57, 43] hc (by omega) (by simp)
  by_cases h0 : v = 0
  · refine ⟨_, Evt.bind (source_ev c) (Evt.bind e1 (Evt.bind et (Evt.bind e2 (Evt.t (by rw [h0]; rfl) (Evt.bind e3 (Evt.bind e4 (Evt.chk (by unfold idxOk; simp; omega) (Evt.self _)))))))), ?_⟩
    rw [son_sz, List.length_set]; omega
  · have hz : (v == 0) = false := by simpa using h0
    by_cases h1 : v = 1
    · refine ⟨_, Evt.bind (source_ev c) (Evt.bind e1 (Evt.bind et (Evt.bind e2 (Evt.f hz (Evt.t (by rw [h1]; rfl) (Evt.bind e3 (Evt.chk (by unfold cutOk; simp; omega) (Evt.self _)))))))), ?_⟩
      rw [son_sz, List.length_take]; omega
    · refine ⟨_, Evt.bind (source_ev c) (Evt.bind e1 (Evt.bind et (Evt.bind e2 (Evt.f hz (Evt.f (by simpa using h1) (Evt.self _)))))), ?_⟩
      rw [son_sz]; omega
theorem spec_l2Cut_loop (l : List UInt8) (c : UInt8) (hn : l.length ≤ 1048576) : ∀ (d i fr : Nat) (out : List ByteArray), i + d = l.length → fr ≤ i → out.length ≤ i → Evt (fun k => spec_l2Cut.l0 (mkB l) (c.toNat : Int) k out (fr : Int) (i : Int)) (out ++ (cutA c ((l.take i).drop fr) (l.drop i)).map mkB)
  | 0, i, fr, out, hi, hf, ho => by
    have hil : i = l.length := by omega
    refine Evt.s ?_
    simp only [spec_l2Cut.l0_s, mkB_size, mk_extract]
    have e1 : ((i : Int) == (l.length : Int)) = true := by simp; omega
    refine Evt.t (by simp; omega) (Evt.chk (by simp [e1]) (Evt.t (by simp [e1]) (Evt.chk (cut_ok (by omega)) (Evt.chk (by simp only [Int.toNat_natCast]; exact cut_ok hf) (Evt.chk (leB_mk2 (by simp; omega)) (Evt.s ?_))))))
    have e2 : wrap64 ((i : Int) + 1) = ((i + 1 : Nat) : Int) := by rw [wrap64_in _ (by omega)]; omega
    simp only [spec_l2Cut.l0_s, mkB_size, e2]
    refine Evt.f (by simp; omega) (Evt.ret ?_)
    rw [List.drop_of_length_le (by omega : l.length ≤ i), cutA]
    simp
  | d + 1, i, fr, out, hi, hf, ho => by
    have hlt : i < l.length := by omega
    refine Evt.s ?_
    simp only [spec_l2Cut.l0_s, mkB_size, mk_extract]
    have e1 : ((i : Int) == (l.length : Int)) = false := by simp; omega
    have e2 : wrap64 ((i : Int) + 1) = ((i + 1 : Nat) : Int) := by rw [wrap64_in _ (by omega)]; omega
    have ed : l.drop i = l[i] :: l.drop (i + 1) := List.drop_eq_getElem_cons hlt
    refine Evt.t (by simp; omega) (Evt.chk (or_ok (idx_ok hlt)) ?_)
    rw [bt_mk l i hlt, e1, e2, Bool.false_or, ed]
    by_cases hc : l[i] = c
    · refine Evt.t (by rw [hc]; simp) (Evt.chk (cut_ok (by omega)) (Evt.chk (by simp only [Int.toNat_natCast]; exact cut_ok hf) (Evt.chk (leB_mk2 (by simp; omega)) ?_)))
      refine (spec_l2Cut_loop l c hn d (i + 1) (i + 1) _ (by omega) (Nat.le_refl _) (by simp; omega)).to ?_
      rw [cutA, if_pos hc]
      simp
    · refine Evt.f (by simpa using fun e => hc (UInt8.toNat_inj.1 (by omega))) ?_
      refine (spec_l2Cut_loop l c hn d (i + 1) fr out (by omega) (by omega) (by omega)).to ?_
      rw [cutA, if_neg hc]
      have e3 : (l.take (i + 1)).drop fr = (l.take i).drop fr ++ [l[i]] := by
        rw [List.take_succ_eq_append_getElem hlt, List.drop_append_of_le_length (by rw [List.length_take]; omega)]
      rw [e3]
theorem spec_l2Cut_ev (l : List UInt8) (c : UInt8) (hn : l.length ≤ 1048576) : Evt (fun k => spec_l2Cut.f k (mkB l) (c.toNat : Int)) ((cutA c [] l).map mkB) := by
  refine Evt.bind (spec_l2Cut_loop l c hn l.length 0 0 [] (by omega) (Nat.le_refl _) (Nat.le_refl _)) (Evt.ret ?_)
  simp
theorem l2num_loop (w : List UInt8) (hw : w.length ≤ 7) : ∀ d i, i + d = w.length → (∀ b ∈ w.take i, isDg b) → Evt (fun k => spec_l2Number.l0 (mkB w) k (valL (w.take i) : Int) (i : Int)) (if ∀ b ∈ w.drop i, isDg b then .inr (valL w : Int) else .inl (0, false))
  | 0, i, hi, hp => by
    refine Evt.s ?_
    simp only [spec_l2Number.l0_s, mkB_size]
    have e : w.drop i = [] := List.drop_of_length_le (by omega)
    have e2 : w.take i = w := List.take_of_length_le (by omega)
    rw [e, e2]
    exact Evt.f (by simp; omega) (Evt.ret (by simp))
  | d + 1, i, hi, hp => by
    have hlt : i < w.length := by omega
    have hv := valL_lt (w.take i) hp
    have hl : (w.take i).length ≤ 6 := by rw [List.length_take]; omega
    have h3 : 10 ^ (w.take i).length ≤ 10 ^ 6 := Nat.pow_le_pow_right (by omega) hl
    have ed : w.drop i = w[i] :: w.drop (i + 1) := List.drop_eq_getElem_cons hlt
    have et : w.take (i + 1) = w.take i ++ [w[i]] := List.take_succ_eq_append_getElem hlt
    refine Evt.s ?_
    simp only [spec_l2Number.l0_s, mkB_size, bt_mk w i hlt]
    refine Evt.t (int_lt hlt) (Evt.chk (idx_ok hlt) (Evt.chk (or_ok (idx_ok hlt)) ?_))
    by_cases hd : isDg w[i]
    · have h1 := hd.1
      have h2 := hd.2
      refine Evt.f (by simp; omega) (Evt.chk (idx_ok hlt) ?_)
      have hv' : valL (w.take i) < 1000000 := Nat.lt_of_lt_of_le hv (by simpa using h3)
      have a1 : IntKind.u8.wrap ((w[i].toNat : Int) - 48) = (w[i].toNat : Int) - 48 := u8_in _ (by omega)
      have a2 : wrap64 ((w[i].toNat : Int) - 48) = (w[i].toNat : Int) - 48 := wrap64_in _ (by omega)
      have a3 : wrap64 ((valL (w.take i) : Int) * 10) = (valL (w.take i) : Int) * 10 := wrap64_in _ (by omega)
      have a4 : wrap64 ((valL (w.take i) : Int) * 10 + ((w[i].toNat : Int) - 48)) = (valL (w.take i) : Int) * 10 + ((w[i].toNat : Int) - 48) := wrap64_in _ (by omega)
      have e1 : wrap64 ((wrap64 ((valL (w.take i) : Int) * 10)) + (wrap64 (IntKind.u8.wrap ((w[i].toNat : Int) - 48)))) = (valL (w.take (i + 1)) : Int) := by
        rw [a1, a2, a3, a4, et, valL_snoc]; omega
      rw [e1, w64 hlt (by omega)]
      refine (l2num_loop w hw d (i + 1) (by omega) (fun b hb => ?_)).to ?_
      · rw [et] at hb
        rcases List.mem_append.1 hb with hb | hb
        · exact hp b hb
        · simp only [List.mem_cons, List.not_mem_nil, or_false] at hb; rw [hb]; exact hd
      · rw [ed]
        by_cases hq : ∀ b ∈ w.drop (i + 1), isDg b
        · rw [if_pos hq, if_pos (fun b hb => by
            rcases List.mem_cons.1 hb with hb | hb
            · rw [hb]; exact hd
            · exact hq b hb)]
        · rw [if_neg hq, if_neg (fun hr => hq fun b hb => hr b (List.mem_cons_of_mem _ hb))]
    · refine Evt.t ?_ (Evt.ret ?_)
      · have hd' : ¬ (48 ≤ w[i].toNat ∧ w[i].toNat ≤ 57) := hd
        rw [Bool.or_eq_true, decide_eq_true_eq, decide_eq_true_eq]; omega
      · rw [ed, if_neg (fun h => hd (h _ (List.mem_cons_self ..)))]
theorem l2num (w : List UInt8) (n : Nat) (hn : n ≤ 7) : ∃ r, Evt (fun k => spec_l2Number.f k (mkB w) (n : Int)) r ∧ (r.2 = true → 0 ≤ r.1 ∧ dgL r.1 = w ∧ w.length ≤ n) := by
  unfold spec_l2Number.f
  simp only [mkB_size]
  by_cases h1 : w.length < 1 ∨ n < w.length
  · refine ⟨(0, false), Evt.chk ?_ (Evt.t ?_ (Evt.self _)), fun h => by cases h⟩
    · refine or1 fun hz => idx_ok (i := 0) ?_
      simp only [Bool.and_eq_true, decide_eq_true_eq] at hz; omega
    · rcases h1 with h1 | h1 <;> simp <;> omega
  · have hb0 : bt (mkB w) 0 = (w[0]'(by omega)).toNat := bt_mk w 0 (by omega)
    have hc1 : decide ((w.length : Int) < 1) = false := by simp; omega
    have hc2 : decide ((n : Int) < (w.length : Int)) = false := by simp; omega
    rw [hc1, hc2, hb0]
    by_cases h2 : 1 < w.length ∧ w[0]'(by omega) = 48
    · refine ⟨(0, false), Evt.chk (or_ok (idx_ok (i := 0) (by omega))) (Evt.t ?_ (Evt.self _)), fun h => by cases h⟩
      rw [h2.2]; simp; omega
    · refine ⟨if ∀ b ∈ w, isDg b then ((valL w : Int), true) else (0, false), Evt.chk (or_ok (idx_ok (i := 0) (by omega))) (Evt.f ?_ (Evt.bind (l2num_loop w (by omega) w.length 0 (by omega) (by simp)) ?_)), fun h => ?_⟩
      · by_cases h3 : 1 < w.length
        · have h4 : w[0]'(by omega) ≠ 48 := fun e => h2 ⟨h3, e⟩
          have h5 : ((w[0]'(by omega)).toNat : Int) ≠ 48 := fun e => h4 (UInt8.toNat_inj.1 (by have : (48 : UInt8).toNat = 48 := rfl; omega))
          simp [h5]
        · have : decide (1 < (w.length : Int)) = false := by simp; omega
          rw [this]; rfl
      · rw [List.drop_zero]
        by_cases hd : ∀ b ∈ w, isDg b
        · rw [if_pos hd, if_pos hd]; exact Evt.self _
        · rw [if_neg hd, if_neg hd]; exact Evt.self _
      · by_cases hd : ∀ b ∈ w, isDg b
        · rw [if_pos hd]
          refine ⟨by simp, ?_, by omega⟩
          have := dec_val w.length w rfl (by omega) hd (fun h3 => ?_)
          · simpa [dgL] using this
          · intro e
            refine h2 ⟨h3, ?_⟩
            cases w with
            | nil => simp at h3
            | cons a r => simpa using e
        · rw [if_neg hd] at h; cases h
theorem l2num_dg (x : Int) (n : Nat) (h0 : 0 ≤ x) (hn : n ≤ 7) (hl : (dgL x).length ≤ n) : Evt (fun k => spec_l2Number.f k (mkB (dgL x)) (n : Int)) (x, true) := by
  obtain ⟨i1, i2, i3, i4, i5⟩ := dec_is x.toNat
  unfold spec_l2Number.f
  simp only [mkB_size]
  have hp : 0 < (dgL x).length := i3
  have hb0 : bt (mkB (dgL x)) 0 = ((dgL x)[0]).toNat := bt_mk _ 0 hp
  have hc1 : decide (((dgL x).length : Int) < 1) = false := by simp; omega
  have hc2 : decide ((n : Int) < ((dgL x).length : Int)) = false := by simp; omega
  rw [hc1, hc2, hb0]
  refine Evt.chk (or_ok (idx_ok (i := 0) hp)) (Evt.f ?_ (Evt.bind (l2num_loop (dgL x) (by omega) (dgL x).length 0 (by omega) (by simp)) ?_))
  · by_cases h3 : 1 < (dgL x).length
    · have h4 : (dgL x)[0] ≠ 48 := fun e => i4 h3 (by rw [← e]; exact List.head?_eq_getElem? ▸ List.getElem?_eq_getElem hp)
      have h5 : (((dgL x)[0]).toNat : Int) ≠ 48 := fun e => h4 (UInt8.toNat_inj.1 (by have : (48 : UInt8).toNat = 48 := rfl; omega))
      simp [h5]
    · have : decide (1 < ((dgL x).length : Int)) = false := by simp; omega
      rw [this]; rfl
  · rw [List.drop_zero, if_pos (show ∀ b ∈ dgL x, isDg b from i1)]
    refine Evt.ret ?_
    have : (valL (dgL x) : Int) = x := by
      have e : valL (dgL x) = x.toNat := i2
      rw [e]; omega
    rw [this]
theorem l2num_all (n : Nat) (hn : n ≤ 7) : ∀ ps : List (List UInt8), ∃ rs : List (Int × Bool), ∃ hl : rs.length = ps.length, ∀ i (h : i < ps.length), Evt (fun k => spec_l2Number.f k (mkB ps[i]) (n : Int)) (rs[i]'(by omega)) ∧ ((rs[i]'(by omega)).2 = true → 0 ≤ (rs[i]'(by omega)).1 ∧ dgL (rs[i]'(by omega)).1 = ps[i])
  | [] => ⟨[], rfl, fun i h => by simp at h⟩
  | p :: ps => by
    obtain ⟨r, hr, hq⟩ := l2num p n hn
    obtain ⟨rs, hl, he⟩ := l2num_all n hn ps
    refine ⟨r :: rs, by simp [hl], fun i h => ?_⟩
    cases i with
    | zero => exact ⟨hr, fun e => ⟨(hq e).1, (hq e).2.1⟩⟩
    | succ i => exact he i (by simpa using h)
theorem all_map_dg : ∀ (ps : List (List UInt8)) (rs : List (Int × Bool)) (hl : rs.length = ps.length), (∀ i (h : i < ps.length), (rs[i]'(by omega)).2 = true → 0 ≤ (rs[i]'(by omega)).1 ∧ dgL (rs[i]'(by omega)).1 = ps[i]) → rs.all (·.2) = true → (rs.map (·.1)).map dgL = ps
  | [], [], _, _, _ => rfl
  | p :: ps, r :: rs, hl, h, ha => by
    rw [List.all_cons, Bool.and_eq_true] at ha
    have h0 := (h 0 (by simp) ha.1).2
    have ih := all_map_dg ps rs (by simpa using hl) (fun i hi => h (i + 1) (by simpa using hi)) ha.2
    simp only [List.getElem_cons_zero] at h0
    rw [List.map_cons, List.map_cons, ih, h0]
  | [], _ :: _, hl, _, _ => by simp at hl
  | _ :: _, [], hl, _, _ => by simp at hl
theorem l7loop (ws : List ByteArray) (h4 : 4 < ws.length) (hne : (!sEq (gt ws (4 : Int)) (⟨#[45]⟩ : ByteArray)) = true) (ps : List (List UInt8)) (rs : List (Int × Bool)) (hn : ps.length ≤ 1048577) (hl : rs.length = ps.length) (he : ∀ i (h : i < ps.length), Evt (fun k => spec_l2Number.f k (mkB ps[i]) ((2 : Nat) : Int)) (rs[i]'(by omega))) (ok : Bool) : ∀ (d i : Nat), i + d = ps.length → Evt (fun k => spec_l7Parse.l0 ws (ps.map mkB) k ((rs.take i).map (·.1)) (ok && (rs.take i).all (·.2)) (i : Int)) (rs.map (·.1), ok && rs.all (·.2))
  | 0, i, hi => by
    refine Evt.s ?_
    simp only [spec_l7Parse.l0_s, List.length_map]
    have e : decide ((i : Int) < (ps.length : Int)) = false := ge_lt (by omega)
    rw [e]
    refine Evt.chk rfl (Evt.f rfl (Evt.ret ?_))
    rw [List.take_of_length_le (by omega)]
  | d + 1, i, hi => by
    have hlt : i < ps.length := by omega
    have hg : gt (ps.map mkB) (i : Int) = mkB ps[i] := by rw [gt_eq (by simpa using hlt)]; simp
    refine Evt.s ?_
    simp only [spec_l7Parse.l0_s, List.length_map, hg]
    refine Evt.chk (or_ok (idx_ok (i := 4) h4)) (Evt.t (by rw [int_lt hlt, hne]; rfl) (Evt.chk (idx_ok hlt) (Evt.bind (he i hlt) (Evt.chk (leB_mk2 (by simp; omega)) ?_))))
    rw [w64 hlt (by omega)]
    have et : rs.take (i + 1) = rs.take i ++ [rs[i]'(by omega)] := List.take_succ_eq_append_getElem (by omega)
    have e1 : (rs.take i).map (·.1) ++ [(rs[i]'(by omega)).1] = (rs.take (i + 1)).map (·.1) := by rw [et, List.map_append]; rfl
    have e2 : (ok && (rs.take i).all (·.2) && (rs[i]'(by omega)).2) = (ok && (rs.take (i + 1)).all (·.2)) := by rw [et, List.all_append, List.all_cons, List.all_nil, Bool.and_true, Bool.and_assoc]
    rw [e1, e2]
    exact l7loop ws h4 hne ps rs hn hl he ok d (i + 1) (by omega)
theorem l7loop0 (ws : List ByteArray) (h4 : 4 < ws.length) (hne : (!sEq (gt ws (4 : Int)) (⟨#[45]⟩ : ByteArray)) = false) (ps : List ByteArray) (ok : Bool) : Evt (fun k => spec_l7Parse.l0 ws ps k [] ok 0) ([], ok) := by
  refine Evt.s ?_
  simp only [spec_l7Parse.l0_s]
  exact Evt.chk (or_ok (idx_ok (i := 4) h4)) (Evt.f (by rw [hne, Bool.and_false]) (Evt.self _))
theorem l7_end (k1 k2 k3 : Int) (xs : List Int) (ok : Bool) (hx : xs.length ≤ 1048576) : ∃ r : Block × Bool, Evt (fun k => ((bif ok then spec_l7Fault.f k (⟨k1, k2, k3, xs⟩ : Block) else some default).bind fun t759 => some ((⟨k1, k2, k3, xs⟩ : Block), (ok && (t759 == 0))))) r ∧ r.1 = ⟨k1, k2, k3, xs⟩ ∧ (r.2 = true → ok = true ∧ spec_l7Fault_v ⟨k1, k2, k3, xs⟩ = 0) ∧ (ok = true → spec_l7Fault_v ⟨k1, k2, k3, xs⟩ = 0 → r.2 = true) := by
  have hsm : smBlock ⟨k1, k2, k3, xs⟩ := ⟨trivial, trivial, trivial, hx, fun _ _ => trivial⟩
  cases ok
  · exact ⟨(⟨k1, k2, k3, xs⟩, false), Evt.bind (Evt.f rfl (Evt.self _)) (Evt.self _), rfl, (fun h => by cases h), (fun h => by cases h)⟩
  · refine ⟨(⟨k1, k2, k3, xs⟩, (true && (spec_l7Fault_v ⟨k1, k2, k3, xs⟩ == 0))), Evt.bind (Evt.t rfl (spec_l7Fault_ev _ hsm)) (Evt.self _), rfl, fun h => ⟨rfl, ?_⟩, fun _ h => ?_⟩
    · simpa using h
    · show (true && (spec_l7Fault_v ⟨k1, k2, k3, xs⟩ == 0)) = true
      rw [h]; rfl
theorem l7Parse_ev (l : List UInt8) (hl : l.length ≤ 1048576) : ∃ r, Evt (fun k => spec_l7Parse.f k (mkB l)) r ∧ (r.2 = true → spec_l7Fault_v r.1 = 0 ∧ blockL r.1 = l) := by
  unfold spec_l7Parse.f
  have hs := spec_l2Cut_ev l 32 hl
  by_cases h5 : (cutA 32 [] l).length = 5
  · obtain ⟨w0, w1, w2, w3, w4, hw⟩ := five (ws := cutA 32 [] l) h5
    have hsz := congrArg List.length (five_sz hw)
    simp only [List.length_append, List.length_cons, List.length_nil] at hsz
    have hfl := five_sz hw
    rw [hw] at hs
    by_cases h0 : w0 = [98, 108, 111, 99, 107]
    · subst h0
      obtain ⟨r1, e1, q1⟩ := l2num w1 2 (by omega)
      obtain ⟨r2, e2, q2⟩ := l2num w2 2 (by omega)
      obtain ⟨r3, e3, q3⟩ := l2num w3 3 (by omega)
      have e4 := spec_l2Cut_ev w4 43 (by omega)
      have hk := cutA_len 43 w4 []
      have hpos := cutA_pos 43 w4 []
      have key : ∃ xs ok', xs.length ≤ 1048576 ∧ Evt (fun k => spec_l7Parse.l0 (List.map mkB [[98, 108, 111, 99, 107], w1, w2, w3, w4]) ((cutA 43 [] w4).map mkB) k [] ((r1.2 && r2.2) && r3.2) 0) (xs, ok') ∧ (ok' = true → ((r1.2 && r2.2) && r3.2) = true ∧ w4 = bif (xs.length : Int) == 0 then [45] else Lib.join (xs.map dgL) [43]) := by
        by_cases hd : w4 = [45]
        · refine ⟨[], _, by simp, l7loop0 _ (by simp) (by subst hd; exact neg_self) _ _, fun h => ⟨h, by rw [hd]; rfl⟩⟩
        · obtain ⟨rs, hrl, he⟩ := l2num_all 2 (by omega) (cutA 43 [] w4)
          have hlp := l7loop (List.map mkB [[98, 108, 111, 99, 107], w1, w2, w3, w4]) (by simp) (by
            show (!sEq (mkB w4) (mkB [45])) = true
            rw [sEq_mkf hd]; rfl) (cutA 43 [] w4) rs (by omega) hrl (fun i h => (he i h).1) ((r1.2 && r2.2) && r3.2) (cutA 43 [] w4).length 0 (by omega)
          have hlp' : Evt (fun k => spec_l7Parse.l0 (List.map mkB [[98, 108, 111, 99, 107], w1, w2, w3, w4]) ((cutA 43 [] w4).map mkB) k [] ((r1.2 && r2.2) && r3.2) 0) (rs.map (·.1), ((r1.2 && r2.2) && r3.2) && rs.all (·.2)) := by simpa using hlp
          refine ⟨rs.map (·.1), _, by rw [List.length_map]; omega, hlp', fun h => ?_⟩
          rw [Bool.and_eq_true] at h
          refine ⟨h.1, ?_⟩
          have hm := all_map_dg (cutA 43 [] w4) rs hrl (fun i hi => (he i hi).2) h.2
          have hz : (((rs.map (·.1)).length : Int) == 0) = false := beq_eq_false_iff_ne.2 (by rw [List.length_map]; omega)
          rw [hz, hm, cutA_join]; simp
      obtain ⟨xs, ok', hxs, e5, q5⟩ := key
      obtain ⟨r, e6, p1, p2, _⟩ := l7_end r1.1 r2.1 r3.1 xs ok' hxs
      refine ⟨r, Evt.bind hs (Evt.chk rfl (Evt.f ?_ (Evt.chk rfl (Evt.bind e1 (Evt.chk rfl (Evt.bind e2 (Evt.chk rfl (Evt.bind e3 (Evt.chk rfl (Evt.bind e4 (Evt.bind e5 e6))))))))))), fun h => ?_⟩
      · have : sEq (mkB [98, 108, 111, 99, 107]) (mkB [98, 108, 111, 99, 107]) = true := sEq_mk.2 rfl
        show (((5 : Int) != 5) || (!sEq (mkB [98, 108, 111, 99, 107]) (mkB [98, 108, 111, 99, 107]))) = false
        rw [this]; rfl
      · obtain ⟨h1, h2⟩ := p2 h
        obtain ⟨h3, h4⟩ := q5 h1
        rw [Bool.and_eq_true, Bool.and_eq_true] at h3
        refine ⟨by rw [p1]; exact h2, ?_⟩
        rw [p1, hfl]
        have a1 := (q1 h3.1.1).2.1
        have a2 := (q2 h3.1.2).2.1
        have a3 := (q3 h3.2).2.1
        unfold blockL
        simp only [a1, a2, a3, ← h4]
        simp [List.append_assoc]
    · refine ⟨(zBlock, false), Evt.bind hs (Evt.chk rfl (Evt.t ?_ (Evt.self _))), fun h => by cases h⟩
      show (((5 : Int) != 5) || (!sEq (mkB w0) (mkB [98, 108, 111, 99, 107]))) = true
      rw [sEq_mkf h0]; rfl
  · have h5' : ((((cutA 32 [] l).map mkB).length : Int) != 5) = true := by rw [List.length_map, bne_iff_ne]; omega
    refine ⟨(zBlock, false), Evt.bind hs (Evt.chk (by rw [h5']; rfl) (Evt.t (by rw [h5']; rfl) (Evt.self _))), fun h => by cases h⟩
theorem l7Parse_of (b : Block) (hf : spec_l7Fault_v b = 0) : Evt (fun k => spec_l7Parse.f k (mkB (blockL b))) (b, true) := by
  have hf' : (spec_l7Fault_v b != 0) = false := by rw [hf]; rfl
  have hb := block_ok b hf'
  have hl := blockL_len b hb
  have hp := hb.prev; have hh := hb.height; have hm := hb.miner
  unfold spec_l7Parse.f
  have hs := spec_l2Cut_ev (blockL b) 32 (by omega)
  rw [block_cut] at hs
  have hwl : (blockW b).length ≤ 50 := by
    have := congrArg List.length (blockL_words b)
    rw [join5] at this
    simp only [List.length_append, List.length_cons, List.length_nil] at this; omega
  have e4 := spec_l2Cut_ev (blockW b) 43 (by omega)
  have e5 : Evt (fun k => spec_l7Parse.l0 (List.map mkB [[98, 108, 111, 99, 107], dgL b.fPrev, dgL b.fHeight, dgL b.fMiner, blockW b]) ((cutA 43 [] (blockW b)).map mkB) k [] ((true && true) && true) 0) (b.fTxs, true) := by
    cases hz : ((b.fTxs.length : Int) == 0)
    · obtain ⟨h1, h2, h3⟩ := txs_cut b hz
      have hlen6 := hb.n6
      have hlp := l7loop (List.map mkB [[98, 108, 111, 99, 107], dgL b.fPrev, dgL b.fHeight, dgL b.fMiner, blockW b]) (by simp) (by
            show (!sEq (mkB (blockW b)) (mkB [45])) = true
            rw [sEq_mkf h2]; rfl) (b.fTxs.map dgL) (b.fTxs.map fun x => (x, true)) (by rw [List.length_map]; omega) (by simp) (fun i h => by
          have hi : i < b.fTxs.length := by simpa using h
          have hx := hb.txs _ (List.getElem_mem hi)
          simp only [List.getElem_map]
          exact l2num_dg _ 2 (by omega) (by omega) (dg_l2 (by omega))) true (b.fTxs.map dgL).length 0 (by omega)
      rw [h1]
      have e7 : ((b.fTxs.map fun x => (x, true)).map (·.1)) = b.fTxs := by rw [List.map_map]; simp [Function.comp_def]
      have e8 : (true && (b.fTxs.map fun x => (x, true)).all (·.2)) = true := by simp
      rw [e7, e8] at hlp
      simpa using hlp
    · have hw : blockW b = [45] := by unfold blockW; rw [hz]; rfl
      have he : b.fTxs = [] := by
        have : (b.fTxs.length : Int) = 0 := by simpa using hz
        exact List.length_eq_zero_iff.1 (by omega)
      rw [he]
      exact l7loop0 _ (by simp) (by rw [hw]; exact neg_self) _ _
  obtain ⟨r, e6, p1, _, p3⟩ := l7_end b.fPrev b.fHeight b.fMiner b.fTxs true (by have := hb.n6; omega)
  have hr : r = (b, true) := by
    have h1 : r.1 = b := p1
    have h2 : r.2 = true := p3 rfl hf
    exact Prod.ext h1 h2
  rw [hr] at e6
  refine Evt.bind hs (Evt.chk rfl (Evt.f ?_ (Evt.chk rfl (Evt.bind (l2num_dg b.fPrev 2 (by omega) (by omega) (dg_l2 (by omega))) (Evt.chk rfl (Evt.bind (l2num_dg b.fHeight 2 (by omega) (by omega) (dg_l2 (by omega))) (Evt.chk rfl (Evt.bind (l2num_dg b.fMiner 3 (by omega) (by omega) (dg_l3 (by omega))) (Evt.chk rfl (Evt.bind e4 (Evt.bind e5 e6)))))))))))
  have : sEq (mkB [98, 108, 111, 99, 107]) (mkB [98, 108, 111, 99, 107]) = true := sEq_mk.2 rfl
  show (((5 : Int) != 5) || (!sEq (mkB [98, 108, 111, 99, 107]) (mkB [98, 108, 111, 99, 107]))) = false
  rw [this]; rfl
noncomputable def spec_ParseBlock_v (x0 : ByteArray) : BlockResult := evV (fun k => spec_ParseBlock.f k x0)
theorem spec_ParseBlock_ex (x0 : ByteArray) (h : x0.size ≤ 1048576) : ∃ r, Evt (fun k => spec_ParseBlock.f k x0) r ∧ smBlockResult r ∧ ((r = ⟨5, zBlock⟩ ∧ ∀ b, spec_l7Fault_v b = 0 → x0 ≠ mkB (blockL b)) ∨ ∃ b, spec_l7Fault_v b = 0 ∧ x0 = mkB (blockL b) ∧ r = ⟨0, b⟩) := by
  obtain ⟨l, rfl⟩ : ∃ l, x0 = mkB l := ⟨_, mk_of x0⟩
  rw [mkB_size] at h
  obtain ⟨r, e, q⟩ := l7Parse_ev l h
  cases hr : r.2
  · refine ⟨⟨5, zBlock⟩, Evt.bind e (Evt.t (by rw [hr]; rfl) (Evt.self _)), ⟨trivial, trivial, trivial, trivial, by simp [zBlock], fun _ _ => trivial⟩, .inl ⟨rfl, fun b hb hx => ?_⟩⟩
    have h2 := l7Parse_of b hb
    rw [← hx] at h2
    have := Evt.uniq e h2
    rw [this] at hr; cases hr
  · obtain ⟨h1, h2⟩ := q hr
    refine ⟨⟨0, r.1⟩, Evt.bind e (Evt.f (by rw [hr]; rfl) (Evt.self _)), ⟨trivial, trivial, trivial, trivial, ?_, fun _ _ => trivial⟩, .inr ⟨r.1, h1, by rw [h2], rfl⟩⟩
    have := (block_ok r.1 (by rw [h1]; rfl)).n6
    show r.1.fTxs.length ≤ 1048576
    omega
theorem spec_ParseBlock_ev (x0 : ByteArray) (h_x0 : x0.size ≤ 1048576) : Evt (fun k => spec_ParseBlock.f k x0) (spec_ParseBlock_v x0) := evV_ev (spec_ParseBlock_ex x0 h_x0).choose_spec.1
theorem l7Bent_ev (c : List Int) (a : Int) (hc : codeOK c) (h0 : 0 ≤ a) (h1 : a ≤ 800) : ∃ b a', Evt (fun k => spec_l7Bent.f k ⟨c, a⟩) (b, a') ∧ smBlock b := by
  obtain ⟨b, a1, e1, q1, q2, hb⟩ := l7Draw_ev c a hc h0 (by omega)
  have hl := hb.n6
  have hsm : ∀ p q r, smBlock ⟨p, q, r, b.fTxs⟩ := fun p q r => ⟨trivial, trivial, trivial, by show b.fTxs.length ≤ _; omega, fun _ _ => trivial⟩
  obtain ⟨v, e2, v0, v1⟩ := next_ev c a1 12 hc (by omega) (by omega)
  obtain ⟨x0, f0, _⟩ := pick_ev c (a1 + 1) [-1, 61, 0] hc (by omega) (by simp)
  obtain ⟨x1, f1, _⟩ := pick_ev c (a1 + 1) [0, 41, 1] hc (by omega) (by simp)
  obtain ⟨x2, f2, _⟩ := pick_ev c (a1 + 1) [0, 1000] hc (by omega) (by simp)
  obtain ⟨x3, f3, _⟩ := pick_ev c (a1 + 1) [0, 61, 5] hc (by omega) (by simp)
  cases h0 : v == 0
  · cases h1 : v == 1
    · cases h2 : v == 2
      · cases h3 : v == 3
        · cases h4 : v == 4
          · exact ⟨_, _, Evt.bind e1 (Evt.bind e2 (Evt.f h0 (Evt.f h1 (Evt.f h2 (Evt.f h3 (Evt.f h4 (Evt.self _))))))), hsm _ _ _⟩
          · exact ⟨_, _, Evt.bind e1 (Evt.bind e2 (Evt.f h0 (Evt.f h1 (Evt.f h2 (Evt.f h3 (Evt.t h4 (Evt.chk rfl (Evt.chk rfl (Evt.self _))))))))), ⟨trivial, trivial, trivial, by show (List.replicate ((7 : Int)).toNat (0 : Int)).length ≤ _; simp, fun _ _ => trivial⟩⟩
        · exact ⟨_, _, Evt.bind e1 (Evt.bind e2 (Evt.f h0 (Evt.f h1 (Evt.f h2 (Evt.t h3 (Evt.bind f3 (Evt.chk (leB_mk2 (by simp; omega)) (Evt.self _)))))))), ⟨trivial, trivial, trivial, by simp; omega, fun _ _ => trivial⟩⟩
      · exact ⟨_, _, Evt.bind e1 (Evt.bind e2 (Evt.f h0 (Evt.f h1 (Evt.t h2 (Evt.bind f2 (Evt.self _)))))), hsm _ _ _⟩
    · exact ⟨_, _, Evt.bind e1 (Evt.bind e2 (Evt.f h0 (Evt.t h1 (Evt.bind f1 (Evt.self _))))), hsm _ _ _⟩
  · exact ⟨_, _, Evt.bind e1 (Evt.bind e2 (Evt.t h0 (Evt.bind f0 (Evt.self _)))), hsm _ _ _⟩
theorem DrawBlockText_ev (c : List Int) (hc : codeOK c) : ∃ b, Evt (fun k => spec_DrawBlockText.f k c) b ∧ smBlock b := by
  obtain ⟨b, a, e, h⟩ := l7Bent_ev c 0 hc (by omega) (by omega)
  exact ⟨b, Evt.bind (source_ev c) (Evt.bind e (Evt.self _)), h⟩
def spec_BlockText_v (x0 : Block) : TextResult := (bif ((spec_l7Fault_v x0) != 0) then (⟨(spec_l7Fault_v x0), (⟨#[]⟩ : ByteArray)⟩ : TextResult) else (⟨0, (spec_l7Text_v x0)⟩ : TextResult))
theorem spec_BlockText_ev (x0 : Block) (h_x0 : smBlock x0) : Evt (fun k => spec_BlockText.f k x0) (spec_BlockText_v x0) :=
  (Evt.bind (spec_l7Fault_ev x0 (h_x0)) (Evt.ifh (fun hc0 => (Evt.self _)) (fun hc0 => (Evt.bind (spec_l7Text_ev x0 (h_x0) (by first | assumption | (simp_all; omega) | (have hf0 := h_x0.2.2.2.1; simp only [leB, decide_eq_true_eq, List.length_append, List.length_cons, List.length_nil]; omega))) (Evt.self _)))))
theorem DrawRewardOf_ev (c : List Int) (hc : codeOK c) : ∃ h, Evt (fun k => spec_DrawRewardOf.f k c) h ∧ 0 ≤ h ∧ h ≤ 41 := by
  obtain ⟨v, e1, p1, q1⟩ := next_ev c 0 40 hc (by omega) (by omega)
  obtain ⟨w, e2, p2, q2⟩ := next_ev c (0 + 1) 40 hc (by omega) (by omega)
  obtain ⟨x, e3, h⟩ := pick_ev c (0 + 1 + 1) [wrap64 (1 + v), wrap64 (1 + w), 41, 0] hc (by omega) (by simp)
  have w1 : wrap64 (1 + v) = 1 + v := w_in (by omega)
  have w2 : wrap64 (1 + w) = 1 + w := w_in (by omega)
  refine ⟨x, Evt.bind (source_ev c) (Evt.bind e1 (Evt.bind e2 (Evt.bind e3 (Evt.self _)))), ?_⟩
  simp only [w1, w2, List.mem_cons, List.not_mem_nil, or_false] at h
  omega
def rwd (h : Int) : Int := 1000 / 2 ^ ((h - 1) / 8).toNat
theorem spec_l7Reward_ev (h : Int) (h0 : 1 ≤ h ∧ h ≤ 41) : Evt (fun k => spec_l7Reward.f k h) (rwd h) := by
  have e1 : wrap64 (h - 1) = h - 1 := wrap64_in _ (by omega)
  have e2 : IntKind.i64.wrap (Int.tdiv (h - 1) 8) = (h - 1) / 8 := i64_quo _ _ ⟨by omega, by omega, by omega⟩
  have e3 : IntKind.u64.wrap ((h - 1) / 8) = (h - 1) / 8 := by rw [IntKind.wrap_u64]; omega
  unfold spec_l7Reward.f
  simp only [e1, e2, e3]
  refine Evt.chk rfl (Evt.chk ?_ (Evt.self _))
  have hb : (IntKind.i64.bits : Int) = 64 := rfl
  rw [Bool.and_eq_true, decide_eq_true_eq, decide_eq_true_eq]; omega
theorem rwd_le (h : Int) (h0 : 1 ≤ h) : rwd (h + 1) ≤ rwd h := by
  unfold rwd
  have h2 : ((h - 1) / 8).toNat ≤ ((h + 1 - 1) / 8).toNat := by omega
  have h3 : (2 : Nat) ^ ((h - 1) / 8).toNat ≤ 2 ^ ((h + 1 - 1) / 8).toNat := Nat.pow_le_pow_right (by omega) h2
  have h4 : 1000 / 2 ^ ((h + 1 - 1) / 8).toNat ≤ 1000 / 2 ^ ((h - 1) / 8).toNat := Nat.div_le_div_left h3 (Nat.pow_pos (by decide))
  have e : ∀ n : Nat, (1000 : Int) / 2 ^ n = ((1000 / 2 ^ n : Nat) : Int) := fun n => by
    rw [Int.natCast_ediv, Int.natCast_pow]; rfl
  rw [e, e]
  exact Int.ofNat_le.2 h4
def spec_RewardOf_v (x0 : Int) : IntResult := (bif !(decide (1 ≤ x0) && decide (x0 ≤ 40)) then (⟨3, 0⟩ : IntResult) else (⟨0, rwd x0⟩ : IntResult))
theorem spec_RewardOf_ev (x0 : Int) : Evt (fun k => spec_RewardOf.f k x0) (spec_RewardOf_v x0) := by
  refine Evt.bind (spec_l1In_ev x0 1 40) (Evt.ifh (fun hc => Evt.self _) (fun hc => ?_))
  have h : 1 ≤ x0 ∧ x0 ≤ 40 := by simpa [spec_l1In_v] using hc
  exact Evt.bind (spec_l7Reward_ev x0 (by omega)) (Evt.self _)
def laws_lwBig_v (x0 : List Int) : Bool := (decide (1048576 < (x0.length : Int)))
theorem laws_lwBig_ev (x0 : List Int) (h_x0 : (Lm tr) x0) : Evt (fun k => laws_lwBig.f k x0) (laws_lwBig_v x0) :=
  (Evt.self _)


def strconv_FormatInt_v (x0 x1 : Int) : ByteArray := mkB (dgL x0)
theorem strconv_FormatInt_ev (n : Int) (h0 : 0 ≤ n) (h1 : n ≤ 1000000) : Evt (fun k => strconv_FormatInt.f k n 10) (mkB (dgL n)) := by
  refine Evt.chk ?_ (Evt.ret (itoa_dg n h0))
  have e1 : decide ((-9223372036854775808 : Int) ≤ n) = true := decide_eq_true (by omega)
  have e2 : decide (n ≤ (9223372036854775807 : Int)) = true := decide_eq_true (by omega)
  rw [e1, e2]; rfl
theorem impl_dec_ev (n : Int) (h0 : 0 ≤ n) (h1 : n ≤ 1000000) : Evt (fun k => impl_dec.f k n) (mkB (dgL n)) := Evt.bind (strconv_FormatInt_ev n h0 h1) (Evt.self _)
theorem dec_any (v : Int) (h0 : -9223372036854775808 ≤ v) (h1 : v ≤ 9223372036854775807) : Evt (fun k => impl_dec.f k v) (mkB (Lib.itoa v)) := by
  refine Evt.bind (Evt.chk ?_ (Evt.self _)) (Evt.self _)
  rw [decide_eq_true h0, decide_eq_true h1]; rfl
theorem parse_bound {l : List UInt8} {v : Int} (h : Lib.parseIntB 64 l = .ok v) : -9223372036854775808 ≤ v ∧ v ≤ 9223372036854775807 := by
  unfold Lib.parseIntB at h
  cases l with
  | nil => cases h
  | cons c r =>
    simp only at h
    cases hp : Lib.parseUintB 64 (if c.toNat = 43 ∨ c.toNat = 45 then r else c :: r) with
    | ok u =>
      rw [hp] at h
      simp only at h
      by_cases hn : c.toNat = 45
      · simp only [hn, not_true_eq_false, false_and, if_false, true_and, if_true] at h
        by_cases hu : 2 ^ (64 - 1) < u
        · rw [if_pos hu] at h; cases h
        · rw [if_neg hu] at h
          injection h with h
          omega
      · simp only [hn, not_false_eq_true, true_and, false_and, if_false] at h
        by_cases hu : 2 ^ (64 - 1) ≤ u
        · rw [if_pos hu] at h; cases h
        · rw [if_neg hu] at h
          injection h with h
          omega
    | _ => rw [hp] at h; cases h
theorem number_ev (w : List UInt8) (hw : w.length ≤ 1048576) : ∃ n, Evt (fun k => impl_number.f k (mkB w)) n ∧ (0 ≤ n → dgL n = w) := by
  have hd : (mkB w).data.toList = w := by simp [mkB]
  have hp : ∀ r, piR w (Lib.parseIntB 64 w) = r → Evt (fun k => strconv_ParseInt.f k (mkB w) 10 64) r := by
    intro r hr
    refine Evt.chk ?_ (Evt.ret ?_)
    · rw [mkB_size]
      have : leB w.length 281474976710656 = true := leB_mk2 (by omega)
      rw [this]; rfl
    · rw [hd]; exact hr
  have hbad : ∀ z : Int, piR w (Lib.parseIntB 64 w) = (z, false) → ∃ n, Evt (fun k => impl_number.f k (mkB w)) n ∧ (0 ≤ n → dgL n = w) := fun z hz =>
    ⟨-1, Evt.bind (hp _ hz) (Evt.bind (Evt.f rfl (Evt.self _)) (Evt.t rfl (Evt.self _))), fun h => absurd h (by decide)⟩
  cases hq : Lib.parseIntB 64 w with
  | range => exact hbad (Lib.intSat 64 w) (by rw [hq]; rfl)
  | ok v =>
    have hb := parse_bound hq
    have hp' := hp (v, true) (by rw [hq]; rfl)
    unfold impl_number.f
    simp only [mkB_size]
    by_cases h10 : 10 < w.length
    · have e : decide (10 < (w.length : Int)) = true := by simp; omega
      rw [e]
      exact ⟨-1, Evt.bind hp' (Evt.bind (Evt.f rfl (Evt.self _)) (Evt.t rfl (Evt.self _))), fun h => absurd h (by decide)⟩
    · have e : decide (10 < (w.length : Int)) = false := by simp; omega
      rw [e]
      by_cases hs : Lib.itoa v = w
      · refine ⟨v, Evt.bind hp' (Evt.bind (Evt.t rfl (dec_any v hb.1 hb.2)) (Evt.f ?_ (Evt.self _))), fun h => ?_⟩
        · rw [hs, sEq_mk.2 rfl]; rfl
        · unfold Lib.itoa at hs
          rw [if_neg (by omega)] at hs
          exact hs
      · refine ⟨-1, Evt.bind hp' (Evt.bind (Evt.t rfl (dec_any v hb.1 hb.2)) (Evt.t ?_ (Evt.self _))), fun h => absurd h (by decide)⟩
        rw [sEq_mkf hs]; rfl
  | _ => exact hbad 0 (by rw [hq]; rfl)
theorem number_dg (x : Int) (h0 : 0 ≤ x) (h1 : x ≤ 9999999) : Evt (fun k => impl_number.f k (mkB (dgL x))) x := by
  have hq : Lib.parseIntB 64 (dgL x) = .ok x := by
    have := parse_dec x.toNat (by omega)
    rw [Int.toNat_of_nonneg h0] at this
    exact this
  have hd : (mkB (dgL x)).data.toList = dgL x := by simp [mkB]
  have hl := dg_l7 h1
  have hp : Evt (fun k => strconv_ParseInt.f k (mkB (dgL x)) 10 64) (x, true) := by
    refine Evt.chk ?_ (Evt.ret ?_)
    · rw [mkB_size]
      have : leB (dgL x).length 281474976710656 = true := leB_mk2 (by omega)
      rw [this]; rfl
    · rw [hd, hq]; rfl
  unfold impl_number.f
  simp only [mkB_size]
  have e : decide (10 < ((dgL x).length : Int)) = false := by simp; omega
  rw [e]
  refine Evt.bind hp (Evt.bind (Evt.t rfl (dec_any x (by omega) (by omega))) (Evt.f ?_ (Evt.self _)))
  have hs : Lib.itoa x = dgL x := by unfold Lib.itoa; rw [if_neg (by omega)]; rfl
  rw [hs, sEq_mk.2 rfl]; rfl
theorem numbers_loop (ps : List (List UInt8)) (ns : List Int) (hn : ps.length ≤ 1048577) (hl : ns.length = ps.length) (he : ∀ i (h : i < ps.length), Evt (fun k => impl_number.f k (mkB ps[i])) (ns[i]'(by omega))) : ∀ (d i : Nat), i + d = ps.length → Evt (fun k => impl_numbers.l0 (ps.map mkB) k (ns.take i) (i : Int)) ns
  | 0, i, hi => by
    refine Evt.s ?_
    simp only [impl_numbers.l0_s, List.length_map]
    exact Evt.f (ge_lt (by omega)) (Evt.ret (List.take_of_length_le (by omega)))
  | d + 1, i, hi => by
    have hlt : i < ps.length := by omega
    have hg : gt (ps.map mkB) (i : Int) = mkB ps[i] := by rw [gt_eq (by simpa using hlt)]; simp
    refine Evt.s ?_
    simp only [impl_numbers.l0_s, List.length_map, hg]
    refine Evt.t (int_lt hlt) (Evt.chk (idx_ok hlt) (Evt.bind (he i hlt) (Evt.chk (leB_mk2 (by simp; omega)) ?_)))
    rw [w64 hlt (by omega)]
    have et : ns.take i ++ [ns[i]'(by omega)] = ns.take (i + 1) := (List.take_succ_eq_append_getElem (by omega)).symm
    rw [et]
    exact numbers_loop ps ns hn hl he d (i + 1) (by omega)
theorem numbers_of (w : List UInt8) (c : UInt8) (ns : List Int) (hw : w.length ≤ 1048576) (hl : ns.length = (cutA c [] w).length) (he : ∀ i (h : i < (cutA c [] w).length), Evt (fun k => impl_number.f k (mkB (cutA c [] w)[i])) (ns[i]'(by omega))) : Evt (fun k => impl_numbers.f k (mkB w) (mkB [c])) ns := by
  have hk := cutA_len c w []
  exact Evt.bind (Evt.bind (strings_Split_ev w c hw) (numbers_loop (cutA c [] w) ns (by omega) hl he (cutA c [] w).length 0 (by omega))) (Evt.self _)
theorem numbers_all : ∀ ps : List (List UInt8), (∀ p ∈ ps, p.length ≤ 1048576) → ∃ ns : List Int, ∃ hl : ns.length = ps.length, ∀ i (h : i < ps.length), Evt (fun k => impl_number.f k (mkB ps[i])) (ns[i]'(by omega))
  | [], _ => ⟨[], rfl, fun i h => by simp at h⟩
  | p :: ps, hp => by
    obtain ⟨n, hn, _⟩ := number_ev p (hp p (by simp))
    obtain ⟨ns, hl, he⟩ := numbers_all ps (fun q hq => hp q (by simp [hq]))
    refine ⟨n :: ns, by simp [hl], fun i h => ?_⟩
    cases i with
    | zero => exact hn
    | succ i => exact he i (by simpa using h)
theorem numbers_ev (w : List UInt8) (c : UInt8) (hw : w.length ≤ 1048575) : ∃ ns : List Int, ns.length ≤ 1048576 ∧ Evt (fun k => impl_numbers.f k (mkB w) (mkB [c])) ns := by
  obtain ⟨ns, hl, he⟩ := numbers_all (cutA c [] w) (fun p hp => by have := cutA_le c w [] p hp; simp at this; omega)
  have hk := cutA_len c w []
  exact ⟨ns, by omega, numbers_of w c ns (by omega) hl he⟩
theorem numbers_dg (c : UInt8) (hc : ¬ isDg c) (xs : List Int) (h : xs ≠ []) (hx : ∀ x ∈ xs, 0 ≤ x ∧ x ≤ 999) (hl : (Lib.join (xs.map dgL) [c]).length ≤ 1048576) : Evt (fun k => impl_numbers.f k (mkB (Lib.join (xs.map dgL) [c])) (mkB [c])) xs := by
  refine numbers_of _ c xs hl (by rw [cut_dgs hc xs h]; simp) (fun i hi => ?_)
  have hi' : i < xs.length := by rw [cut_dgs hc xs h] at hi; simpa using hi
  have e : (cutA c [] (Lib.join (xs.map dgL) [c]))[i] = dgL xs[i] := by simp only [cut_dgs hc xs h, List.getElem_map]
  rw [e]
  have := hx _ (List.getElem_mem hi')
  exact number_dg _ this.1 (by omega)
def impl_within_v (x0 : Int) (x1 : Int) (x2 : Int) : Bool := ((decide (x1 ≤ x0)) && (decide (x0 ≤ x2)))
theorem impl_within_ev (x0 : Int) (x1 : Int) (x2 : Int)  : Evt (fun k => impl_within.f k x0 x1 x2) (impl_within_v x0 x1 x2) :=
  (Evt.self _)
def impl_isKey_v (x0 : Int) : Bool := (impl_within_v x0 1 999)
theorem impl_isKey_ev (x0 : Int)  : Evt (fun k => impl_isKey.f k x0) (impl_isKey_v x0) :=
  (Evt.bind (impl_within_ev x0 1 999) (Evt.self _))
def impl_isId_v (x0 : Int) : Bool := (impl_within_v x0 1 60)
theorem impl_isId_ev (x0 : Int)  : Evt (fun k => impl_isId.f k x0) (impl_isId_v x0) :=
  (Evt.bind (impl_within_ev x0 1 60) (Evt.self _))
def slices_Index_int64_v (x0 : List Int) (x1 : Int) : Int := (onO ((List.range' 0 (x0.length - 0)).findSome? (fun (i0 : Nat) => (bif (x1 == (gt x0 (i0 : Int))) then (some (i0 : Int)) else none))) (fun r => r) (-1))
theorem slices_Index_int64_ev (x0 : List Int) (x1 : Int) (h_x0 : (Lm tr) x0) : Evt (fun k => slices_Index_int64.f k x0 x1) (slices_Index_int64_v x0 x1) :=
  (Evt.loop (r' := fun r => r) (Evt.srch (L := (fun k i => slices_Index_int64.l0 x0 x1 k i)) 0 x0.length (by have := h_x0; first | (have := this.1; omega) | omega) (fun (i0 : Nat) => (bif (x1 == (gt x0 (i0 : Int))) then (some (i0 : Int)) else none)) (fun i0 hs2 hi2 => by
  have hbn : x0.length ≤ 9223372036854775807 := (by have := h_x0; first | (have := this.1; omega) | omega)
  simp only [slices_Index_int64.l0_s]
  exact Evt_t2 (int_lt hi2) (StE.chk (by first | exact idx_ok (by omega) | exact idx_ok (by have hq := len_eq (by assumption); omega) | exact idx_found (show (0 : Int) ≤ (i0 : Int) by simp_all) | exact cut_ok (by omega) | exact or_ok (idx_ok (by omega)) | (refine or1 (fun hz => pre_ok (by simp at hz; omega) (by omega) (by omega))) | exact pre_ok (by omega) (by omega) (by omega) | (simp_all [idxOk, cutOk, leB]; done) | (simp_all [idxOk, cutOk, leB]; omega) | (simp [idxOk, cutOk, leB] at *; omega) | (have hf0 := h_x0.1; simp only [leB, decide_eq_true_eq, List.length_append, List.length_cons, List.length_nil]; omega)) (StE.ifh (fun hc1 => (StE.ret _)) (fun hc1 => StE.next)))) (fun j hj => by
  simp only [slices_Index_int64.l0_s]
  exact Evt.f (ge_lt hj) (Evt.self _))) (fun _ => rfl) (Evt.self _))
def slices_Contains_int64_v (x0 : List Int) (x1 : Int) : Bool := (decide (0 ≤ (slices_Index_int64_v x0 x1)))
theorem slices_Contains_int64_ev (x0 : List Int) (x1 : Int) (h_x0 : (Lm tr) x0) : Evt (fun k => slices_Contains_int64.f k x0 x1) (slices_Contains_int64_v x0 x1) :=
  (Evt.bind (slices_Index_int64_ev x0 x1 (h_x0)) (Evt.self _))
theorem slices_Contains_int64_any (x0 : List Int) (x1 : Int) : slices_Contains_int64_v x0 x1 = (List.range' 0 (x0.length - 0)).any (fun (i0 : Nat) => (x1 == (gt x0 (i0 : Int)))) := idx_any _ _
def impl_BlockFault_v (x0 : Block) : Int := (bif (((!(impl_within_v x0.fPrev 0 60)) || (!(bif (!(!(impl_within_v x0.fPrev 0 60))) then (impl_within_v x0.fHeight 1 40) else default))) || (!(bif (!((!(impl_within_v x0.fPrev 0 60)) || (!(bif (!(!(impl_within_v x0.fPrev 0 60))) then (impl_within_v x0.fHeight 1 40) else default)))) then (impl_isKey_v x0.fMiner) else default))) then 3 else (bif ((x0.fPrev == 0) != (x0.fHeight == 1)) then 1 else (bif (decide (6 < (x0.fTxs.length : Int))) then 2 else (onO ((List.range' 0 (x0.fTxs.length - 0)).findSome? (fun (i0 : Nat) => (bif !(impl_isId_v (gt x0.fTxs (i0 : Int))) then (some 3) else (bif (slices_Contains_int64_v (x0.fTxs.take ((i0 : Int)).toNat) (gt x0.fTxs (i0 : Int))) then (some 7) else none)))) (fun r => r) 0))))
theorem impl_BlockFault_ev (x0 : Block) (h_x0 : smBlock x0) : Evt (fun k => impl_BlockFault.f k x0) (impl_BlockFault_v x0) :=
  (Evt.bind (impl_within_ev x0.fPrev 0 60) (Evt.bind (Evt.ifh (fun _ => (impl_within_ev x0.fHeight 1 40)) (fun _ => Evt.self _)) (Evt.bind (Evt.ifh (fun _ => (impl_isKey_ev x0.fMiner)) (fun _ => Evt.self _)) (Evt.ifh (fun hc5 => (Evt.self _)) (fun hc5 => (Evt.ifh (fun hc4 => (Evt.self _)) (fun hc4 => (Evt.ifh (fun hc3 => (Evt.self _)) (fun hc3 => (Evt.loop (r' := fun r => r) (Evt.srch (L := (fun k i => impl_BlockFault.l0 x0 k i)) 0 x0.fTxs.length (by have := h_x0.2.2.2; first | (have := this.1; omega) | omega) (fun (i0 : Nat) => (bif !(impl_isId_v (gt x0.fTxs (i0 : Int))) then (some 3) else (bif (slices_Contains_int64_v (x0.fTxs.take ((i0 : Int)).toNat) (gt x0.fTxs (i0 : Int))) then (some 7) else none))) (fun i0 hs3 hi3 => by
  have hbn : x0.fTxs.length ≤ 9223372036854775807 := (by have := h_x0.2.2.2; first | (have := this.1; omega) | omega)
  simp only [impl_BlockFault.l0_s]
  exact Evt_t2 (int_lt hi3) (StE.chk (by first | exact idx_ok (by omega) | exact idx_ok (by have hq := len_eq (by assumption); omega) | exact idx_found (show (0 : Int) ≤ (i0 : Int) by simp_all) | exact cut_ok (by omega) | exact or_ok (idx_ok (by omega)) | (refine or1 (fun hz => pre_ok (by simp at hz; omega) (by omega) (by omega))) | exact pre_ok (by omega) (by omega) (by omega) | (simp_all [idxOk, cutOk, leB]; done) | (simp_all [idxOk, cutOk, leB]; omega) | (simp [idxOk, cutOk, leB] at *; omega) | (have hf0 := h_x0.2.2.2.1; simp only [leB, decide_eq_true_eq, List.length_append, List.length_cons, List.length_nil]; omega)) (StE.bind (impl_isId_ev (gt x0.fTxs (i0 : Int))) (StE.ifh (fun hc2 => (StE.ret _)) (fun hc2 => (StE.chk (by first | exact idx_ok (by omega) | exact idx_ok (by have hq := len_eq (by assumption); omega) | exact idx_found (by simp_all) | exact cut_ok (by omega) | exact or_ok (idx_ok (by omega)) | (refine or1 (fun hz => pre_ok (by simp at hz; omega) (by omega) (by omega))) | exact pre_ok (by omega) (by omega) (by omega) | (simp_all [idxOk, cutOk, leB]; done) | (simp_all [idxOk, cutOk, leB]; omega) | (simp [idxOk, cutOk, leB] at *; omega) | (have hf0 := h_x0.2.2.2.1; simp only [leB, decide_eq_true_eq, List.length_append, List.length_cons, List.length_nil]; omega)) (StE.bind (slices_Contains_int64_ev (x0.fTxs.take ((i0 : Int)).toNat) (gt x0.fTxs (i0 : Int)) ((Lm_take h_x0.2.2.2))) (StE.ifh (fun hc1 => (StE.ret _)) (fun hc1 => StE.next))))))))) (fun j hj => by
  simp only [impl_BlockFault.l0_s]
  exact Evt.f (ge_lt hj) (Evt.self _))) (fun _ => rfl) (Evt.self _)))))))))))
theorem contains_int64 (xs : List Int) (x : Int) : slices_Contains_int64_v xs x = spec_l4Among_v xs x := by
  have e : (fun i : Nat => x == gt xs (i : Int)) = fun i : Nat => gt xs (i : Int) == x := by funext i; exact BEq.comm
  rw [slices_Contains_int64_any, e]; simp only [spec_l4Among_v, found_any, bifb]
theorem blockFault_same (x0 : Block) : impl_BlockFault_v x0 = spec_l7Fault_v x0 := by
  simp only [impl_BlockFault_v, spec_l7Fault_v, contains_int64, impl_isId_v, impl_within_v, spec_l1In_v, impl_isKey_v, spec_l1Key_v]
theorem strings_Join_ev (xs : List (List UInt8)) (sep : List UInt8) (hn : xs.length ≤ 1000000) (hl : (Lib.join xs sep).length ≤ 1000000) : Evt (fun k => strings_Join.f k (xs.map mkB) (mkB sep)) (mkB (Lib.join xs sep)) := by
  have e1 : (xs.map mkB).map (·.data.toList) = xs := by rw [List.map_map]; simp [mkB, Function.comp_def]
  have e2 : (mkB sep).data.toList = sep := by simp [mkB]
  unfold strings_Join.f
  rw [e1, e2]
  refine Evt.chk ?_ (Evt.self _)
  rw [Bool.and_eq_true]
  exact ⟨decide_eq_true (by rw [List.length_map]; omega), decide_eq_true (by omega)⟩
theorem impl_joined_ev (xs : List Int) (sep : List UInt8) (hn : xs.length ≤ 1000) (hk : ∀ x ∈ xs, 0 ≤ x ∧ x ≤ 999) (hl : (Lib.join (xs.map dgL) sep).length ≤ 1000000) : Evt (fun k => impl_joined.f k xs (mkB sep)) (mkB (Lib.join (xs.map dgL) sep)) := by
  have h1 := Evt.gatherL (L := fun k ac i => impl_joined.l0 xs k ac i) xs.length (by omega) (fun ac i => ac ++ [mkB (dgL (gt xs (i : Int)))]) (fun i hi a ha => by simp; omega) (fun i hi a ha o hg => by
    have hx := hk _ (gt_mem hi)
    simp only [impl_joined.l0_s]
    refine Evt.t (int_lt hi) (Evt.chk (idx_ok hi) (Evt.bind (impl_dec_ev (gt xs (i : Int)) (by omega) (by omega)) (Evt.chk ?_ hg)))
    refine decide_eq_true ?_
    simp only [List.length_cons, List.length_nil]; omega) (fun i a hi => by
    simp only [impl_joined.l0_s]
    exact Evt.f (ge_lt hi) (Evt.self _))
  have e := range_foldl xs (fun (ac : List ByteArray) x => ac ++ [mkB (dgL x)]) []
  have e2 := fold_map (fun x => mkB (dgL x)) xs []
  have h2 : Evt (fun k => impl_joined.l0 xs k [] 0) ((xs.map dgL).map mkB) := h1.to (e.trans (e2.trans (by rw [List.nil_append, List.map_map]; rfl)))
  refine Evt.bind h2 (Evt.bind (strings_Join_ev (xs.map dgL) sep (by rw [List.length_map]; omega) hl) (Evt.self _))
theorem impl_blockText_ev (b : Block) (hb : BlockOK b) : Evt (fun k => impl_blockText.f k b) (mkB (blockL b)) := by
  have c1 : (⟨#[98, 108, 111, 99, 107, 32]⟩ : ByteArray) = mkB [98, 108, 111, 99, 107, 32] := rfl
  have c2 : (⟨#[32]⟩ : ByteArray) = mkB [32] := rfl
  have c3 : (⟨#[45]⟩ : ByteArray) = mkB [45] := rfl
  have c4 : (⟨#[43]⟩ : ByteArray) = mkB [43] := rfl
  have h3 : ∀ x ∈ [b.fPrev, b.fHeight, b.fMiner], 0 ≤ x ∧ x ≤ 999 := by
    have := hb.prev; have := hb.height; have := hb.miner
    intro x hx
    simp only [List.mem_cons, List.not_mem_nil, or_false] at hx
    rcases hx with rfl | rfl | rfl <;> omega
  have hj := join_le (m := 1000) (n := 3) (sep := [32]) (xs := [b.fPrev, b.fHeight, b.fMiner].map dgL) (by
    intro x hx
    obtain ⟨y, hy, rfl⟩ := List.mem_map.1 hx
    exact dg3 y (h3 y hy).1 (h3 y hy).2) (by simp)
  have hk := join_le (m := 1000) (n := 6) (sep := [43]) (xs := b.fTxs.map dgL) (by
    intro x hx
    obtain ⟨y, hy, rfl⟩ := List.mem_map.1 hx
    have := hb.txs y hy
    exact dg3 y (by omega) (by omega)) (by rw [List.length_map]; exact hb.n6)
  simp only [List.length_cons, List.length_nil] at hj hk
  unfold impl_blockText.f blockL
  simp only [c1, c2, c3, c4]
  have h1 : Evt (fun k => (bif (decide (0 < (b.fTxs.length : Int))) then ((impl_joined.f k b.fTxs (mkB [43])).bind fun t1124 => some t1124) else some (mkB [45]))) (mkB (bif (b.fTxs.length : Int) == 0 then [45] else Lib.join (b.fTxs.map dgL) [43])) := by
    cases hz : ((b.fTxs.length : Int) == 0)
    · have hz' : ¬ (b.fTxs.length : Int) = 0 := by simpa using hz
      refine Evt.t (decide_eq_true (by omega)) (Evt.bind (impl_joined_ev b.fTxs [43] (by have := hb.n6; omega) (fun x hx => by have := hb.txs x hx; omega) (by omega)) (Evt.self _))
    · have hz' : (b.fTxs.length : Int) = 0 := by simpa using hz
      exact Evt.f (decide_eq_false (by omega)) (Evt.self _)
  have hq : (bif (b.fTxs.length : Int) == 0 then [45] else Lib.join (b.fTxs.map dgL) [43]).length ≤ 7000 := by
    cases (b.fTxs.length : Int) == 0
    · simp only [cond_false]; omega
    · simp only [cond_true, List.length_cons, List.length_nil]; omega
  refine Evt.bind h1 (Evt.bind (impl_joined_ev [b.fPrev, b.fHeight, b.fMiner] [32] (by simp) h3 (by omega)) ?_)
  simp only [mkB_append, mkB_size, List.length_append, List.length_cons, List.length_nil]
  refine Evt.chk (leB_mk (by omega)) (Evt.chk (leB_mk (by omega)) (Evt.chk (leB_mk (by omega)) (Evt.ret ?_)))
  have ej : Lib.join ([b.fPrev, b.fHeight, b.fMiner].map dgL) [32] = dgL b.fPrev ++ [32] ++ dgL b.fHeight ++ [32] ++ dgL b.fMiner := by
    simp [Lib.join_cons, Lib.joinTail, List.append_assoc]
  rw [ej]
  simp [List.append_assoc]
theorem readBlock_ev (l : List UInt8) (hl : l.length ≤ 1048576) : ∃ r, Evt (fun k => impl_readBlock.f k (mkB l)) r ∧ (r.2 = true → spec_l7Fault_v r.1 = 0 ∧ blockL r.1 = l) := by
  have c1 : (⟨#[32]⟩ : ByteArray) = mkB [32] := rfl
  have c2 : (⟨#[43]⟩ : ByteArray) = mkB [43] := rfl
  have c3 : (⟨#[45]⟩ : ByteArray) = mkB [45] := rfl
  unfold impl_readBlock.f
  simp only [c1, c2, c3, mkB_size]
  have hs := strings_Split_ev l 32 hl
  by_cases hbad : 300 < l.length ∨ (cutA 32 [] l).length ≠ 5
  · refine ⟨(zBlock, false), Evt.bind hs (Evt.t ?_ (Evt.self _)), fun h => by cases h⟩
    rw [Bool.or_eq_true, decide_eq_true_eq, List.length_map, bne_iff_ne]
    rcases hbad with h | h
    · exact .inl (by omega)
    · exact .inr (by omega)
  · obtain ⟨w0, w1, w2, w3, w4, hw⟩ := five (ws := cutA 32 [] l) (by omega)
    have hsz := congrArg List.length (five_sz hw)
    simp only [List.length_append, List.length_cons, List.length_nil] at hsz
    rw [hw] at hs
    obtain ⟨n1, e1, _⟩ := number_ev w1 (by omega)
    obtain ⟨n2, e2, _⟩ := number_ev w2 (by omega)
    obtain ⟨n3, e3, _⟩ := number_ev w3 (by omega)
    obtain ⟨ns, hns, e4⟩ := numbers_ev w4 43 (by omega)
    have e5 : ∃ xs : List Int, xs.length ≤ 1048576 ∧ Evt (fun k => (Zk.chk (idxOk (4 : Int) (List.map mkB [w0, w1, w2, w3, w4]).length) (bif (!sEq (gt (List.map mkB [w0, w1, w2, w3, w4]) (4 : Int)) (mkB [45])) then (Zk.chk (idxOk (4 : Int) (List.map mkB [w0, w1, w2, w3, w4]).length) ((impl_numbers.f k (gt (List.map mkB [w0, w1, w2, w3, w4]) (4 : Int)) (mkB [43])).bind fun t1540 => some t1540)) else some ([] : List Int)))) xs := by
      cases h : (!sEq (gt (List.map mkB [w0, w1, w2, w3, w4]) (4 : Int)) (mkB [45]))
      · exact ⟨[], by simp, Evt.chk rfl (Evt.f rfl (Evt.self _))⟩
      · exact ⟨ns, hns, Evt.chk rfl (Evt.t rfl (Evt.chk rfl (Evt.bind e4 (Evt.self _))))⟩
    obtain ⟨xs, hxs, e5⟩ := e5
    have hsm : smBlock ⟨n1, n2, n3, xs⟩ := ⟨trivial, trivial, trivial, hxs, fun _ _ => trivial⟩
    have ef := impl_BlockFault_ev ⟨n1, n2, n3, xs⟩ hsm
    rw [blockFault_same] at ef
    have hlen : decide (300 < (l.length : Int)) = false := by simp; omega
    cases hf : spec_l7Fault_v ⟨n1, n2, n3, xs⟩ != 0
    · have hok := block_ok _ hf
      have et := impl_blockText_ev _ hok
      cases hq : (!sEq (mkB (blockL ⟨n1, n2, n3, xs⟩)) (mkB l))
      · refine ⟨(⟨n1, n2, n3, xs⟩, true), Evt.bind hs (Evt.f (by rw [hlen]; rfl) (Evt.chk rfl (Evt.chk rfl (Evt.chk rfl (Evt.bind e1 (Evt.bind e2 (Evt.bind e3 (Evt.bind e5 (Evt.bind ef (Evt.bind (Evt.t (by rw [hf]; rfl) et) (Evt.f (by rw [hf, hq]; rfl) (Evt.self _)))))))))))), fun _ => ⟨by simpa using hf, ?_⟩⟩
        exact sEq_mk.1 (by simpa using hq)
      · exact ⟨(zBlock, false), Evt.bind hs (Evt.f (by rw [hlen]; rfl) (Evt.chk rfl (Evt.chk rfl (Evt.chk rfl (Evt.bind e1 (Evt.bind e2 (Evt.bind e3 (Evt.bind e5 (Evt.bind ef (Evt.bind (Evt.t (by rw [hf]; rfl) et) (Evt.t (by rw [hf, hq]; rfl) (Evt.self _)))))))))))), fun h => by cases h⟩
    · exact ⟨(zBlock, false), Evt.bind hs (Evt.f (by rw [hlen]; rfl) (Evt.chk rfl (Evt.chk rfl (Evt.chk rfl (Evt.bind e1 (Evt.bind e2 (Evt.bind e3 (Evt.bind e5 (Evt.bind ef (Evt.bind (Evt.f (by rw [hf]; rfl) (Evt.self _)) (Evt.t (by rw [hf]; rfl) (Evt.self _)))))))))))), fun h => by cases h⟩
theorem readBlock_of (b : Block) (hf : spec_l7Fault_v b = 0) : Evt (fun k => impl_readBlock.f k (mkB (blockL b))) (b, true) := by
  have hf' : (spec_l7Fault_v b != 0) = false := by rw [hf]; rfl
  have hb := block_ok b hf'
  have hl := blockL_len b hb
  have c1 : (⟨#[32]⟩ : ByteArray) = mkB [32] := rfl
  have c2 : (⟨#[43]⟩ : ByteArray) = mkB [43] := rfl
  have c3 : (⟨#[45]⟩ : ByteArray) = mkB [45] := rfl
  unfold impl_readBlock.f
  simp only [c1, c2, c3, mkB_size]
  have hs := strings_Split_ev (blockL b) 32 (by omega)
  rw [block_cut] at hs
  have hlen : decide (300 < ((blockL b).length : Int)) = false := by simp; omega
  have hp := hb.prev; have hh := hb.height; have hm := hb.miner
  have e5 : Evt (fun k => (Zk.chk (idxOk (4 : Int) (List.map mkB [[98, 108, 111, 99, 107], dgL b.fPrev, dgL b.fHeight, dgL b.fMiner, blockW b]).length) (bif (!sEq (gt (List.map mkB [[98, 108, 111, 99, 107], dgL b.fPrev, dgL b.fHeight, dgL b.fMiner, blockW b]) (4 : Int)) (mkB [45])) then (Zk.chk (idxOk (4 : Int) (List.map mkB [[98, 108, 111, 99, 107], dgL b.fPrev, dgL b.fHeight, dgL b.fMiner, blockW b]).length) ((impl_numbers.f k (gt (List.map mkB [[98, 108, 111, 99, 107], dgL b.fPrev, dgL b.fHeight, dgL b.fMiner, blockW b]) (4 : Int)) (mkB [43])).bind fun t1540 => some t1540)) else some ([] : List Int)))) b.fTxs := by
    have hg : gt (List.map mkB [[98, 108, 111, 99, 107], dgL b.fPrev, dgL b.fHeight, dgL b.fMiner, blockW b]) (4 : Int) = mkB (blockW b) := rfl
    rw [hg]
    cases hz : ((b.fTxs.length : Int) == 0)
    · obtain ⟨_, h2, h3⟩ := txs_cut b hz
      have hw : blockW b = Lib.join (b.fTxs.map dgL) [43] := by unfold blockW; rw [hz]; rfl
      have hwl : (blockW b).length ≤ 50 := by
        have := congrArg List.length (blockL_words b)
        rw [join5] at this
        simp only [List.length_append, List.length_cons, List.length_nil] at this; omega
      refine Evt.chk rfl (Evt.t (by rw [sEq_mkf h2]; rfl) (Evt.chk rfl (Evt.bind ?_ (Evt.self _))))
      rw [hw]
      rw [hw] at hwl
      exact numbers_dg 43 nodg b.fTxs h3 (fun x hx => by have := hb.txs x hx; omega) (by omega)
    · have hw : blockW b = [45] := by unfold blockW; rw [hz]; rfl
      have he : b.fTxs = [] := by
        have : (b.fTxs.length : Int) = 0 := by simpa using hz
        exact List.length_eq_zero_iff.1 (by omega)
      rw [hw, he]
      exact Evt.chk rfl (Evt.f (by rw [sEq_mk.2 rfl]; rfl) (Evt.self _))
  have hsm : smBlock b := ⟨trivial, trivial, trivial, by have := hb.n6; omega, fun _ _ => trivial⟩
  have ef := impl_BlockFault_ev b hsm
  rw [blockFault_same, hf] at ef
  refine Evt.bind hs (Evt.f (by rw [hlen]; rfl) (Evt.chk rfl (Evt.chk rfl (Evt.chk rfl (Evt.bind (number_dg b.fPrev (by omega) (by omega)) (Evt.bind (number_dg b.fHeight (by omega) (by omega)) (Evt.bind (number_dg b.fMiner (by omega) (by omega)) (Evt.bind e5 (Evt.bind ef (Evt.bind (Evt.t rfl (impl_blockText_ev b hb)) (Evt.f ?_ (Evt.self _))))))))))))
  rw [sEq_mk.2 rfl]; rfl
noncomputable def impl_ParseBlock_v (x0 : ByteArray) : BlockResult := evV (fun k => impl_ParseBlock.f k x0)
theorem impl_ParseBlock_ex (x0 : ByteArray) (h : x0.size ≤ 1048576) : ∃ r, Evt (fun k => impl_ParseBlock.f k x0) r ∧ ((r = ⟨5, zBlock⟩ ∧ ∀ b, spec_l7Fault_v b = 0 → x0 ≠ mkB (blockL b)) ∨ ∃ b, spec_l7Fault_v b = 0 ∧ x0 = mkB (blockL b) ∧ r = ⟨0, b⟩) := by
  obtain ⟨l, rfl⟩ : ∃ l, x0 = mkB l := ⟨_, mk_of x0⟩
  rw [mkB_size] at h
  obtain ⟨r, e, q⟩ := readBlock_ev l h
  cases hr : r.2
  · refine ⟨⟨5, zBlock⟩, Evt.bind e (Evt.t (by rw [hr]; rfl) (Evt.self _)), .inl ⟨rfl, fun b hb hx => ?_⟩⟩
    have h2 := readBlock_of b hb
    rw [← hx] at h2
    have := Evt.uniq e h2
    rw [this] at hr; cases hr
  · obtain ⟨h1, h2⟩ := q hr
    exact ⟨⟨0, r.1⟩, Evt.bind e (Evt.f (by rw [hr]; rfl) (Evt.self _)), .inr ⟨r.1, h1, by rw [h2], rfl⟩⟩
theorem impl_ParseBlock_ev (x0 : ByteArray) (h_x0 : x0.size ≤ 1048576) : Evt (fun k => impl_ParseBlock.f k x0) (impl_ParseBlock_v x0) := evV_ev (impl_ParseBlock_ex x0 h_x0).choose_spec.1
theorem blockL_inj {a b : Block} (ha : spec_l7Fault_v a = 0) (hb : spec_l7Fault_v b = 0) (h : mkB (blockL a) = mkB (blockL b)) : a = b := by
  have h1 := readBlock_of a ha
  rw [h] at h1
  exact (Prod.mk.inj (Evt.uniq h1 (readBlock_of b hb))).1
def impl_BlockText_v (x0 : Block) : TextResult := (bif ((impl_BlockFault_v x0) != 0) then (⟨(impl_BlockFault_v x0), (⟨#[]⟩ : ByteArray)⟩ : TextResult) else (⟨0, mkB (blockL x0)⟩ : TextResult))
theorem impl_BlockText_ev (x0 : Block) (h_x0 : smBlock x0) : Evt (fun k => impl_BlockText.f k x0) (impl_BlockText_v x0) := by
  refine Evt.bind (impl_BlockFault_ev x0 h_x0) (Evt.ifh (fun hc => Evt.self _) (fun hc => Evt.bind (impl_blockText_ev x0 (block_ok x0 (by rw [← blockFault_same]; exact hc))) (Evt.self _)))
theorem impl_rewardOf_ev (h : Int) (h0 : 1 ≤ h ∧ h ≤ 41) : Evt (fun k => impl_rewardOf.f k h) (rwd h) := by
  have e1 : wrap64 (h - 1) = h - 1 := wrap64_in _ (by omega)
  have e2 : IntKind.i64.wrap (Int.tdiv (h - 1) 8) = (h - 1) / 8 := i64_quo _ _ ⟨by omega, by omega, by omega⟩
  unfold impl_rewardOf.f
  simp only [e1, e2]
  refine Evt.chk rfl (Evt.chk ?_ (Evt.self _))
  have hb : (IntKind.i64.bits : Int) = 64 := rfl
  rw [Bool.and_eq_true, decide_eq_true_eq, decide_eq_true_eq]; omega
def impl_RewardOf_v (x0 : Int) : IntResult := (bif !(decide (1 ≤ x0) && decide (x0 ≤ 40)) then (⟨3, 0⟩ : IntResult) else (⟨0, rwd x0⟩ : IntResult))
theorem impl_RewardOf_ev (x0 : Int) : Evt (fun k => impl_RewardOf.f k x0) (impl_RewardOf_v x0) := by
  refine Evt.bind (impl_within_ev x0 1 40) (Evt.ifh (fun hc => Evt.self _) (fun hc => ?_))
  have h : 1 ≤ x0 ∧ x0 ≤ 40 := by simpa [impl_within_v] using hc
  exact Evt.bind (impl_rewardOf_ev x0 (by omega)) (Evt.self _)
def laws_lwNums_v (x0 : List Int) (x1 : List Int) : Bool := (bif ((x0.length : Int) != (x1.length : Int)) then false else (onO ((List.range' 0 (x0.length - 0)).findSome? (fun (i0 : Nat) => (bif ((gt x0 (i0 : Int)) != (gt x1 (i0 : Int))) then (some false) else none))) (fun r => r) true))
theorem laws_lwNums_ev (x0 : List Int) (x1 : List Int) (h_x0 : (Lm tr) x0) (h_x1 : (Lm tr) x1) : Evt (fun k => laws_lwNums.f k x0 x1) (laws_lwNums_v x0 x1) :=
  (Evt.ifh (fun hc2 => (Evt.self _)) (fun hc2 => (Evt.loop (r' := fun r => r) (Evt.srch (L := (fun k i => laws_lwNums.l0 x0 x1 k i)) 0 x0.length (by have := h_x0; first | (have := this.1; omega) | omega) (fun (i0 : Nat) => (bif ((gt x0 (i0 : Int)) != (gt x1 (i0 : Int))) then (some false) else none)) (fun i0 hs2 hi2 => by
  have hbn : x0.length ≤ 9223372036854775807 := (by have := h_x0; first | (have := this.1; omega) | omega)
  simp only [laws_lwNums.l0_s]
  exact Evt_t2 (int_lt hi2) (StE.chk (by first | exact idx_ok (by omega) | exact idx_ok (by have hq := len_eq (by assumption); omega) | exact idx_found (show (0 : Int) ≤ (i0 : Int) by simp_all) | exact cut_ok (by omega) | exact or_ok (idx_ok (by omega)) | (refine or1 (fun hz => pre_ok (by simp at hz; omega) (by omega) (by omega))) | exact pre_ok (by omega) (by omega) (by omega) | (simp_all [idxOk, cutOk, leB]; done) | (simp_all [idxOk, cutOk, leB]; omega) | (simp [idxOk, cutOk, leB] at *; omega) | (have hf0 := h_x0.1; have hf1 := h_x1.1; simp only [leB, decide_eq_true_eq, List.length_append, List.length_cons, List.length_nil]; omega)) (StE.chk (by first | exact idx_ok (by omega) | exact idx_ok (by have hq := len_eq (by assumption); omega) | exact idx_found (show (0 : Int) ≤ (i0 : Int) by simp_all) | exact cut_ok (by omega) | exact or_ok (idx_ok (by omega)) | (refine or1 (fun hz => pre_ok (by simp at hz; omega) (by omega) (by omega))) | exact pre_ok (by omega) (by omega) (by omega) | (simp_all [idxOk, cutOk, leB]; done) | (simp_all [idxOk, cutOk, leB]; omega) | (simp [idxOk, cutOk, leB] at *; omega) | (have hf0 := h_x0.1; have hf1 := h_x1.1; simp only [leB, decide_eq_true_eq, List.length_append, List.length_cons, List.length_nil]; omega)) (StE.ifh (fun hc1 => (StE.ret _)) (fun hc1 => StE.next))))) (fun j hj => by
  simp only [laws_lwNums.l0_s]
  exact Evt.f (ge_lt hj) (Evt.self _))) (fun _ => rfl) (Evt.self _))))
theorem blockText_same (x0 : Block) : impl_BlockText_v x0 = spec_BlockText_v x0 := by
  unfold impl_BlockText_v spec_BlockText_v
  rw [blockFault_same]
  rfl
theorem nums_refl (xs : List Int) : laws_lwNums_v xs xs = true := by
  unfold laws_lwNums_v
  have e : ((xs.length : Int) != (xs.length : Int)) = false := by simp
  rw [e]
  have : (List.range' 0 (xs.length - 0)).findSome? (fun (i0 : Nat) => (bif ((gt xs (i0 : Int)) != (gt xs (i0 : Int))) then (some false) else none)) = none := by
    rw [List.findSome?_eq_none_iff]
    intro i _
    simp
  rw [cond_false, this]; rfl
theorem code_byte {x : Int} (h : iOk .u8 x) : 0 ≤ x ∧ x ≤ 255 := by
  have h' : (decide (IntKind.u8.min ≤ x) && decide (x ≤ IntKind.u8.max)) = true := h
  rw [Bool.and_eq_true, decide_eq_true_eq, decide_eq_true_eq] at h'
  exact h'
theorem same_FnBlocks (c : List Int) (o0 : Lok (iOk .u8) c) : Evt (fun k => laws_FnBlocks.f k c) true := by
  have eb : Evt (fun k => laws_lwBig.f k c) (decide (1048576 < (c.length : Int))) := Evt.self _
  cases hb : decide (1048576 < (c.length : Int))
  · have hc : codeOK c := ⟨by have := of_decide_eq_false hb; omega, fun x hx => code_byte (o0.2 x hx)⟩
    obtain ⟨text, e1, hs⟩ := DrawParseBlock_ev c hc
    obtain ⟨b, e4, hbm⟩ := DrawBlockText_ev c hc
    obtain ⟨h, e5, h0, h1⟩ := DrawRewardOf_ev c hc
    obtain ⟨p, e2, hp⟩ := impl_ParseBlock_ex text (by omega)
    have rest : Evt (fun k => ((spec_DrawBlockText.f k c).bind fun t2963 => ((impl_BlockText.f k t2963).bind fun t2973 => (bif (t2973.fCode != 0) then ((spec_BlockText.f k t2963).bind fun t2987 => ((bif (t2987.fCode == t2973.fCode) then impl_BlockFault.f k t2963 else some default).bind fun t2989 => some ((t2987.fCode == t2973.fCode) && (t2989 == t2973.fCode)))) else ((impl_ParseBlock.f k t2973.fText).bind fun t2996 => ((spec_DrawRewardOf.f k c).bind fun t3006 => ((impl_RewardOf.f k t3006).bind fun t3009 => ((impl_RewardOf.f k (wrap64 (t3006 + 1))).bind fun t3017 => ((bif ((((t2996.fCode == 0) && (t2996.fBlock.fPrev == t2963.fPrev)) && (t2996.fBlock.fHeight == t2963.fHeight)) && (t2996.fBlock.fMiner == t2963.fMiner)) then laws_lwNums.f k t2996.fBlock.fTxs t2963.fTxs else some default).bind fun t3025 => ((bif ((((((t2996.fCode == 0) && (t2996.fBlock.fPrev == t2963.fPrev)) && (t2996.fBlock.fHeight == t2963.fHeight)) && (t2996.fBlock.fMiner == t2963.fMiner)) && t3025) && (decide (10 < (t2973.fText.size : Int)))) then spec_RewardOf.f k t3006 else some default).bind fun t3027 => some ((((((((t2996.fCode == 0) && (t2996.fBlock.fPrev == t2963.fPrev)) && (t2996.fBlock.fHeight == t2963.fHeight)) && (t2996.fBlock.fMiner == t2963.fMiner)) && t3025) && (decide (10 < (t2973.fText.size : Int)))) && (t3009.fValue == t3027.fValue)) && (((t3009.fCode != 0) || (t3017.fCode != 0)) || (decide (t3017.fValue ≤ t3009.fValue)))))))))))))) true := by
      refine Evt.bind e4 (Evt.bind (impl_BlockText_ev b hbm) ?_)
      cases hf : spec_l7Fault_v b != 0
      · have hbo := block_ok b hf
        have hf0 : spec_l7Fault_v b = 0 := by simpa using hf
        have et : impl_BlockText_v b = ⟨0, mkB (blockL b)⟩ := by unfold impl_BlockText_v; rw [blockFault_same, hf]; rfl
        rw [et]
        have hl := blockL_len b hbo
        have ep : Evt (fun k => impl_ParseBlock.f k (mkB (blockL b))) ⟨0, b⟩ := Evt.bind (readBlock_of b hf0) (Evt.f rfl (Evt.self _))
        have h10 : 10 < (blockL b).length := by
          have d1 := dg_pos b.fPrev; have d2 := dg_pos b.fHeight; have d3 := dg_pos b.fMiner
          unfold blockL
          simp only [List.length_append, List.length_cons, List.length_nil]
          omega
        have ew : wrap64 (h + 1) = h + 1 := w_in (by omega)
        have en := laws_lwNums_ev b.fTxs b.fTxs hbm.2.2.2 hbm.2.2.2
        rw [nums_refl] at en
        have e10 : decide (10 < ((mkB (blockL b)).size : Int)) = true := by rw [mkB_size]; exact decide_eq_true (by omega)
        refine Evt.f rfl (Evt.bind ep (Evt.bind e5 (Evt.bind (impl_RewardOf_ev h) (Evt.bind (impl_RewardOf_ev (wrap64 (h + 1))) (Evt.bind (Evt.t (by simp) en) (Evt.bind (Evt.t (by rw [e10]; simp) (spec_RewardOf_ev h)) (Evt.ret ?_)))))))
        rw [e10, ew]
        have hfin : (((impl_RewardOf_v h).fValue == (spec_RewardOf_v h).fValue) && ((((impl_RewardOf_v h).fCode != 0) || ((impl_RewardOf_v (h + 1)).fCode != 0)) || (decide ((impl_RewardOf_v (h + 1)).fValue ≤ (impl_RewardOf_v h).fValue)))) = true := by
          unfold impl_RewardOf_v spec_RewardOf_v
          by_cases hh : 1 ≤ h ∧ h ≤ 40
          · have a1 : (decide (1 ≤ h) && decide (h ≤ 40)) = true := by simp; omega
            rw [a1]
            by_cases h4 : h ≤ 39
            · have a2 : (decide (1 ≤ h + 1) && decide (h + 1 ≤ 40)) = true := by simp; omega
              rw [a2]
              have := rwd_le h hh.1
              simp; omega
            · have a2 : (decide (1 ≤ h + 1) && decide (h + 1 ≤ 40)) = false := by simp; omega
              rw [a2]; simp
          · have a1 : (decide (1 ≤ h) && decide (h ≤ 40)) = false := by simp; omega
            rw [a1]; simp
        simpa using hfin
      · have et : impl_BlockText_v b = ⟨spec_l7Fault_v b, ⟨#[]⟩⟩ := by unfold impl_BlockText_v; rw [blockFault_same, hf]; rfl
        have es : spec_BlockText_v b = impl_BlockText_v b := (blockText_same b).symm
        rw [et]
        have e6 := spec_BlockText_ev b hbm
        rw [es, et] at e6
        have e7 := impl_BlockFault_ev b hbm
        rw [blockFault_same] at e7
        exact Evt.t hf (Evt.bind e6 (Evt.bind (Evt.t (by simp) e7) (Evt.ret (by simp))))
    rcases hp with ⟨rfl, hno⟩ | ⟨q, hq, hx, rfl⟩
    · obtain ⟨r, e3, _, hr⟩ := spec_ParseBlock_ex text (by omega)
      have hr5 : r = ⟨5, zBlock⟩ := by
        rcases hr with ⟨h, _⟩ | ⟨b', h1, h2, _⟩
        · exact h
        · exact absurd h2 (hno b' h1)
      rw [hr5] at e3
      exact Evt.bind eb (Evt.f hb (Evt.bind e1 (Evt.bind e2 (Evt.bind (Evt.f rfl (Evt.self _)) (Evt.bind (Evt.t rfl e3) (Evt.f rfl rest))))))
    · have hqb := block_ok q (by rw [hq]; rfl)
      have hqm : smBlock q := ⟨trivial, trivial, trivial, by have := hqb.n6; omega, fun _ _ => trivial⟩
      have et := impl_BlockText_ev q hqm
      have ev : impl_BlockText_v q = ⟨0, text⟩ := by unfold impl_BlockText_v; rw [blockFault_same, hq, hx]; rfl
      rw [ev] at et
      have hse : (!sEq text text) = false := by rw [sEq_refl]; rfl
      exact Evt.bind eb (Evt.f hb (Evt.bind e1 (Evt.bind e2 (Evt.bind (Evt.t rfl et) (Evt.bind (Evt.f (by show ((!(((0 : Int) == 0) && (!sEq text text))) && ((0 : Int) != 0)) = false; simp) (Evt.self _)) (Evt.f (by show ((((0 : Int) == 0) && (!sEq text text)) || (((0 : Int) != 0) && _)) = false; rw [hse]; simp) rest))))))
  · exact Evt.bind eb (Evt.t hb (Evt.self _))
end Go.Proofs.YtcpacdbdehphkaaDoor.Zk
namespace Go.Proofs.YtcpacdbdehphkaaDoor.Pure
open Go Go.Proofs.YtcpacdbdehphkaaDoor.Zk
theorem FnBlocks (x0 : List Int) (o0 : Lok (iOk .u8) x0) : ∃ k, laws_FnBlocks.f k x0 = some true := (same_FnBlocks x0 o0).get
end Go.Proofs.YtcpacdbdehphkaaDoor.Pure
