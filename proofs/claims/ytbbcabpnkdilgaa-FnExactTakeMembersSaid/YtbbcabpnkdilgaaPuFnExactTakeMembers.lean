/- The plain law of FnExactTakeMembers: what the program's function and the reference's compute is the same. No condition. -/
import Derived.Test.YtbbcabpnkdilgaaZkPure
import Derived.Test.YtbbcabpnkdilgaaTakeMembersZkOpn
import Derived.Test.YtbbcabpnkdilgaaTakeMembersZkF8
namespace Go.Proofs.Ytbbcabpnkdilgaa.Zk
open Go Go.RowKit Go.IntWalk
set_option linter.unusedVariables false
set_option linter.unusedSimpArgs false

def szL (n : Nat) (l : Int) : Int := bif decide (wrap64 (l - n) < 0) then -1 else wrap64 (l - n)
theorem szL_ok {n : Nat} {l : Int} (h : decide (szL n l < 0) = false) (h0 : 0 ≤ l) (h1 : l ≤ 1048576) (hn : n ≤ maxLen) : (n : Int) ≤ l ∧ szL n l = l - n := by
  unfold szL at *
  have hn' : n ≤ 9223372036854775807 := by simpa [maxLen] using hn
  have e : wrap64 (l - n) = l - n := by unfold wrap64; omega
  rw [e] at h ⊢
  by_cases hc : l - (n : Int) < 0
  · rw [decide_eq_true hc] at h; cases h
  · rw [decide_eq_false hc]; exact ⟨by omega, rfl⟩
theorem szL_le {n : Nat} {l : Int} (h0 : 0 ≤ l) (h1 : l ≤ 1048576) (hn : n ≤ maxLen) : szL n l ≤ l := by
  unfold szL
  have hn' : n ≤ 9223372036854775807 := by simpa [maxLen] using hn
  have e : wrap64 (l - n) = l - n := by unfold wrap64; omega
  rw [e]
  by_cases hc : l - (n : Int) < 0
  · rw [decide_eq_true hc]; show (-1 : Int) ≤ l; omega
  · rw [decide_eq_false hc]; show l - (n : Int) ≤ l; omega
theorem nn {l : Int} (h : decide (l < 0) = false) : 0 ≤ l := by simpa using h
abbrev tr {α : Type} (x : α) : Prop := True
def Lm {α : Type} (sm : α → Prop) (xs : List α) : Prop := xs.length ≤ 1048576 ∧ ∀ x ∈ xs, sm x
theorem gt_mem {α : Type} [Inhabited α] {xs : List α} {i : Nat} (h : i < xs.length) : gt xs (i : Int) ∈ xs := by
  rw [gt_eq (i := (i : Int)) (by simpa using h)]
  exact List.getElem_mem _
/-- Sizes, added up. -/
theorem Evt.szl {α : Type} [Inhabited α] {L : Nat → Int → Int → Option (Int ⊕ Int)} {sm : α → Prop} (xs : List α) (hn : xs.length ≤ 9223372036854775807)
    (step : ∀ i, i < xs.length → ∀ left, 0 ≤ left → left ≤ 1048576 → ∃ t, t ≤ left ∧ (0 ≤ t → sm (gt xs (i : Int))) ∧ (t < 0 → Evt (fun k => L k left (i : Int)) (.inl (-1))) ∧ ∀ o, 0 ≤ t → Evt (fun k => L k t (wrap64 ((i : Int) + 1))) o → Evt (fun k => L k left (i : Int)) o)
    (done : ∀ left, Evt (fun k => L k left (xs.length : Int)) (.inr left)) (l : Int) (h0 : 0 ≤ l) (h1 : l ≤ 1048576) :
    ∃ o, Evt (fun k => L k l 0) o ∧ match o with | .inl r => r = -1 | .inr t => 0 ≤ t ∧ t ≤ l ∧ ∀ x ∈ xs, sm x := by
  have key : ∀ d i l, i + d = xs.length → 0 ≤ l → l ≤ 1048576 → ∃ o, Evt (fun k => L k l (i : Int)) o ∧ match o with | .inl r => r = -1 | .inr t => 0 ≤ t ∧ t ≤ l ∧ ∀ j, i ≤ j → j < xs.length → sm (gt xs (j : Int)) := by
    intro d
    induction d with
    | zero =>
      intro i l hi h0 h1
      have e : i = xs.length := by omega
      subst e
      exact ⟨_, done l, h0, by omega, fun j h2 h3 => by omega⟩
    | succ d ih =>
      intro i l hi h0 h1
      obtain ⟨t, a1, a2, a3, a4⟩ := step i (by omega) l h0 h1
      by_cases c : t < 0
      · exact ⟨_, a3 c, rfl⟩
      · obtain ⟨o, b1, b2⟩ := ih (i + 1) t (by omega) (by omega) (by omega)
        refine ⟨o, a4 o (by omega) (by rw [w64 (by omega : i < xs.length) hn]; exact b1), ?_⟩
        cases o with
        | inl r => exact b2
        | inr u =>
          refine ⟨b2.1, by have := b2.2.1; omega, fun j h2 h3 => ?_⟩
          by_cases e : j = i
          · subst e; exact a2 (by omega)
          · exact b2.2.2 j (by omega) h3
  obtain ⟨o, b1, b2⟩ := key xs.length 0 l (by omega) h0 h1
  refine ⟨o, b1, ?_⟩
  cases o with
  | inl r => exact b2
  | inr u =>
    refine ⟨b2.1, b2.2.1, fun x hx => ?_⟩
    obtain ⟨j, hj, e⟩ := List.getElem_of_mem hx
    have := b2.2.2 j (by omega) hj
    rw [gt_eq (i := (j : Int)) (by simpa using hj)] at this
    simpa [e] using this

theorem Evt_t2 {β : Type} {f g nxt : Nat → Option (β ⊕ Unit)} {c : Bool} {v : Option β} (hc : c = true) (h : StE f nxt v) : StE (fun n => bif c then f n else g n) nxt v := by subst hc; exact h
theorem Lm_take {α : Type} {sm : α → Prop} {xs : List α} {n : Nat} (h : Lm sm xs) : Lm sm (xs.take n) := ⟨by have := h.1; rw [List.length_take]; omega, fun x hx => h.2 x (List.mem_of_mem_take hx)⟩
theorem Lm_drop {α : Type} {sm : α → Prop} {xs : List α} {n : Nat} (h : Lm sm xs) : Lm sm (xs.drop n) := ⟨by have := h.1; rw [List.length_drop]; omega, fun x hx => h.2 x (List.mem_of_mem_drop hx)⟩
/-! searches, told by 'any' -/
theorem found_any {β γ : Type} (l : List Nat) (p : Nat → Bool) (a : β) (r : β → γ) (c : γ) : onO (l.findSome? fun i => bif p i then some a else none) r c = bif l.any p then r a else c := by
  induction l with
  | nil => rfl
  | cons i l ih =>
    rw [List.findSome?_cons, List.any_cons]
    cases p i
    · simpa using ih
    · rfl
theorem idx_any (l : List Nat) (p : Nat → Bool) : decide (0 ≤ onO (l.findSome? fun i => bif p i then some (i : Int) else none) (fun r => r) (-1)) = l.any p := by
  induction l with
  | nil => rfl
  | cons i l ih =>
    rw [List.findSome?_cons, List.any_cons]
    cases p i
    · simpa using ih
    · simp [onO]
theorem band1 {c d e : Bool} : (c && (bif c then d else e)) = (c && d) := by cases c <;> rfl
theorem bor1 {c d e : Bool} : (c || (bif !c then d else e)) = (c || d) := by cases c <;> rfl
theorem bnn1 {c d e : Bool} : ((!c) || (!(bif (!(!c)) then d else e))) = ((!c) || (!d)) := by cases c <;> rfl
theorem bnn2 {c d : Bool} : ((!c) || (!d)) = !(c && d) := by cases c <;> rfl
theorem bnn3 {c d e : Bool} : ((!c) || (!(bif !(!c) then d else e))) = !(c && d) := by cases c <;> rfl
theorem bn_n {c d e : Bool} : (!c || !(bif c then d else e)) = !(c && d) := by cases c <;> rfl
theorem rng1 {a lo hi : Int} : (decide (a < lo) || decide (hi < a)) = !(decide (lo ≤ a) && decide (a ≤ hi)) := by
  by_cases h1 : a < lo
  · have : ¬ lo ≤ a := by omega
    simp [h1, this]
  · have h2 : lo ≤ a := by omega
    by_cases h3 : hi < a
    · have : ¬ a ≤ hi := by omega
      simp [h1, h2, h3, this]
    · have : a ≤ hi := by omega
      simp [h1, h2, h3, this]
theorem at_any (l : List Nat) (p : Nat → Bool) (h : ∀ i ∈ l, i < 4611686018427387904) : decide (0 < onO (l.findSome? fun i => bif p i then some (wrap64 ((i : Int) + 1)) else none) (fun r => r) 0) = l.any p := by
  induction l with
  | nil => rfl
  | cons i l ih =>
    rw [List.findSome?_cons, List.any_cons]
    have hi := h i (by simp)
    have hl : ∀ j ∈ l, j < 4611686018427387904 := fun j hj => h j (List.mem_cons_of_mem _ hj)
    clear h
    cases p i
    · exact ih hl
    · have e : wrap64 ((i : Int) + 1) = (i : Int) + 1 := by unfold wrap64; omega
      rw [e]
      show decide (0 < (i : Int) + 1) = true
      exact decide_eq_true (by omega)
theorem fs_congr {β : Type} {l : List Nat} {f g : Nat → Option β} (h : ∀ i ∈ l, f i = g i) : l.findSome? f = l.findSome? g := by
  induction l with
  | nil => rfl
  | cons i l ih => rw [List.findSome?_cons, List.findSome?_cons, h i (by simp), ih fun j hj => h j (by simp [hj])]
theorem any_congr' {l : List Nat} {f g : Nat → Bool} (h : ∀ i ∈ l, f i = g i) : l.any f = l.any g := by
  induction l with
  | nil => rfl
  | cons i l ih => rw [List.any_cons, List.any_cons, h i (by simp), ih fun j hj => h j (by simp [hj])]
theorem in_range {i n : Nat} (h : i ∈ List.range' 0 (n - 0)) : i < n := by
  have := List.mem_range'_1.1 h
  omega
theorem gt_take {α : Type} [Inhabited α] {xs : List α} {n j : Nat} (h : j < n) : gt (xs.take n) (j : Int) = gt xs (j : Int) := by
  unfold gt
  have e : ((j : Int)).toNat = j := by simp
  rw [e, List.getD_eq_getElem?_getD, List.getD_eq_getElem?_getD, List.getElem?_take, if_pos h]
theorem any_take {α : Type} [Inhabited α] {xs : List α} {i : Nat} (h : i ≤ xs.length) (p : α → Bool) :
    (List.range' 0 ((xs.take i).length - 0)).any (fun j => p (gt (xs.take i) (j : Int))) = (List.range' 0 (i - 0)).any (fun j => p (gt xs (j : Int))) := by
  have e : (xs.take i).length = i := by rw [List.length_take]; omega
  rw [e]
  exact any_congr' fun j hj => by rw [gt_take (in_range hj)]
theorem sEq_comm (a b : ByteArray) : sEq a b = sEq b a := by unfold sEq; exact BEq.comm
theorem bifb {b : Bool} : (bif b then true else false) = b := by cases b <;> rfl
theorem idx_found {n : Nat} {p : Nat → Bool} (h : 0 ≤ onO ((List.range' 0 (n - 0)).findSome? fun i => bif p i then some (i : Int) else none) (fun r => r) (-1)) : idxOk (onO ((List.range' 0 (n - 0)).findSome? fun i => bif p i then some (i : Int) else none) (fun r => r) (-1)) n = true := by
  have key : ∀ l : List Nat, (∀ i ∈ l, i < n) → 0 ≤ onO (l.findSome? fun i => bif p i then some (i : Int) else none) (fun r => r) (-1) → idxOk (onO (l.findSome? fun i => bif p i then some (i : Int) else none) (fun r => r) (-1)) n = true := by
    intro l
    induction l with
    | nil => intro _ h; exact absurd h (by show ¬ (0 : Int) ≤ -1; omega)
    | cons i l ih =>
      intro hl h
      rw [List.findSome?_cons] at h ⊢
      cases hp : p i
      · rw [hp] at h; exact ih (fun j hj => hl j (List.mem_cons_of_mem _ hj)) h
      · exact idx_ok (hl i (List.mem_cons_self ..))
  exact key _ (fun i hi => in_range hi) h
theorem cut_ok {i n : Nat} (h : i ≤ n) : cutOk (i : Int) n = true := by unfold cutOk; simp; omega
theorem len_eq {a b : Nat} (h : ((a : Int) != (b : Int)) = false) : a = b := by
  by_cases e : a = b
  · exact e
  · have : ((a : Int) != (b : Int)) = true := by simp; omega
    rw [this] at h; cases h

abbrev smRef (x : Ref) : Prop := tr x.fTx ∧ tr x.fAt
abbrev smMember (x : Member) : Prop := tr x.fKey ∧ smRef x.fRef
abbrev smRule (x : Rule) : Prop := (Lm tr) x.fKeys ∧ tr x.fNeed ∧ tr x.fAfter
abbrev smOut (x : Out) : Prop := tr x.fValue ∧ smRule x.fRule
abbrev smTx (x : Tx) : Prop := tr x.fKind ∧ tr x.fMember ∧ (Lm smRef) x.fIns ∧ (Lm smOut) x.fOuts
abbrev smMembersResult (x : MembersResult) : Prop := tr x.fCode ∧ (Lm smMember) x.fMembers
/-! ### Rows marked, and held so -/
theorem chkT {α : Type} (t : Option α) : Zk.chk true t = t := rfl
theorem gt_set {α : Type} [Inhabited α] {xs : List α} {i : Nat} (h : i < xs.length) (a : α) : gt (xs.set i a) (i : Int) = a := by
  rw [gt_eq (by simpa using h)]; simp
theorem mark_held {α : Type} [Inhabited α] (L : Nat → List α → Int → Int → Option (List α × Int)) (H : List α → Nat → Int → Int → Option (Int ⊕ Int)) (B : Prop) (c : Int) (hc : 0 ≤ c) (p : α → Prop)
    (step : ∀ (acc : List α) (s : Int) (i : Nat), i < acc.length → p (gt acc (i : Int)) → 1 ≤ s → s + c ≤ 4611686018427387904 → ∃ y t, s ≤ t ∧ t ≤ s + c ∧ (∀ r, Evt (fun k => L k (acc.set i y) t (wrap64 ((i : Int) + 1))) r → Evt (fun k => L (k + 1) acc s (i : Int)) r) ∧
      (B → ∀ ys : List α, i < ys.length → gt ys (i : Int) = y → ∀ r, Evt (fun k => H ys k t (wrap64 ((i : Int) + 1))) r → Evt (fun k => H ys (k + 1) s (i : Int)) r))
    (doneL : ∀ (acc : List α) (s : Int), Evt (fun k => L (k + 1) acc s (acc.length : Int)) (acc, s)) (doneH : B → ∀ (ys : List α) (s : Int), Evt (fun k => H ys (k + 1) s (ys.length : Int)) (.inr s))
    (xs : List α) (hn : xs.length ≤ 9223372036854775807) (hp : ∀ x ∈ xs, p x) (s : Int) (h1 : 1 ≤ s) (h2 : s + xs.length * c ≤ 4611686018427387904) :
    ∃ ys t, ys.length = xs.length ∧ s ≤ t ∧ t ≤ s + xs.length * c ∧ Evt (fun k => L k xs s 0) (ys, t) ∧ (B → Evt (fun k => H ys k s 0) (.inr t)) := by
  have key : ∀ (d i : Nat) (acc : List α) (s : Int), i + d = xs.length → acc.length = xs.length → (∀ j, i ≤ j → acc[j]? = xs[j]?) → 1 ≤ s → s + d * c ≤ 4611686018427387904 →
      ∃ ys t, ys.length = xs.length ∧ (∀ j, j < i → ys[j]? = acc[j]?) ∧ s ≤ t ∧ t ≤ s + d * c ∧ Evt (fun k => L k acc s (i : Int)) (ys, t) ∧ (B → Evt (fun k => H ys k s (i : Int)) (.inr t)) := by
    intro d
    induction d with
    | zero =>
      intro i acc s hi hl _ h1 h2
      have e : (i : Int) = (acc.length : Int) := by omega
      exact ⟨acc, s, hl, fun _ _ => rfl, by omega, by omega, by rw [e]; exact Evt.s (doneL acc s), fun hB => by rw [e]; exact Evt.s (doneH hB acc s)⟩
    | succ d ih =>
      intro i acc s hi hl hj h1 h2
      have e : ((d + 1 : Nat) : Int) * c = d * c + c := by rw [Int.natCast_add, Int.add_mul]; simp
      have hdc : 0 ≤ (d : Int) * c := Int.mul_nonneg (by omega) hc
      rw [e] at h2
      have hlt : i < acc.length := by omega
      have hpx : p (gt acc (i : Int)) := by
        rw [gt_eq (by simpa using hlt)]
        have h5 := hj i (Nat.le_refl _)
        rw [List.getElem?_eq_getElem hlt] at h5
        exact hp _ (List.mem_of_getElem? h5.symm)
      obtain ⟨y, t1, a1, a2, a3, a4⟩ := step acc s i hlt hpx h1 (by omega)
      obtain ⟨ys, t, b1, b2, b3, b4, b5, b6⟩ := ih (i + 1) (acc.set i y) t1 (by omega) (by simp [hl]) (fun j hj' => by rw [List.getElem?_set_ne (by omega)]; exact hj j (by omega)) (by omega) (by omega)
      have hy : gt ys (i : Int) = y := by
        have h6 := b2 i (by omega)
        rw [List.getElem?_set_self hlt] at h6
        rw [gt_eq (by simp; omega)]
        have h7 : i < ys.length := by omega
        rw [List.getElem?_eq_getElem h7] at h6
        simpa using h6
      refine ⟨ys, t, b1, fun j hj' => ?_, by omega, by rw [e]; omega, Evt.s (a3 _ ?_), fun hB => Evt.s (a4 hB ys (by omega) hy _ ?_)⟩
      · rw [b2 j (by omega), List.getElem?_set_ne (by omega)]
      · rw [w64 (by omega : i < xs.length) hn]; exact b5
      · rw [w64 (by omega : i < xs.length) hn]; exact b6 hB
  obtain ⟨ys, t, a1, _, a3, a4, a5, a6⟩ := key xs.length 0 xs s (by omega) rfl (fun _ _ => rfl) h1 h2
  exact ⟨ys, t, a1, a3, a4, a5, a6⟩
/-! ### What is gathered in a row -/
theorem len_bif {α : Type} {c : Bool} {a b : List α} {n : Nat} (h : a.length ≤ n) (k : b.length ≤ n) : (bif c then a else b).length ≤ n := by cases c; exact k; exact h
theorem Evt.gatherL {σ : Type} {L : Nat → List σ → Int → Option (List σ)} (n : Nat) (hn : n ≤ 1048576) (st : List σ → Nat → List σ)
    (len : ∀ i, i < n → ∀ a, a.length ≤ i → (st a i).length ≤ i + 1)
    (step : ∀ i, i < n → ∀ a, a.length ≤ i → ∀ o, Evt (fun k => L k (st a i) (wrap64 ((i : Int) + 1))) o → Evt (fun k => L (k + 1) a (i : Int)) o)
    (done : ∀ (i : Nat) a, n ≤ i → Evt (fun k => L (k + 1) a (i : Int)) a) : Evt (fun k => L k [] 0) ((List.range' 0 (n - 0)).foldl st []) := by
  have key : ∀ d i (a : List σ), (i + d = n ∨ n ≤ i ∧ d = 0) → a.length ≤ i → Evt (fun k => L k a (i : Int)) ((List.range' i d).foldl st a) := by
    intro d
    induction d with
    | zero => intro i a hi _; exact Evt.s (done i a (by omega))
    | succ d ih =>
      intro i a hi ha
      rw [List.range'_succ, List.foldl_cons]
      refine Evt.s (step i (by omega) a ha _ ?_)
      rw [w64 (by omega : i < n) (by omega)]
      exact ih (i + 1) (st a i) (by omega) (len i (by omega) a ha)
  exact key (n - 0) 0 [] (by omega) (by simp)
theorem fold_len {σ : Type} (st : List σ → Nat → List σ) (h : ∀ a i, (st a i).length ≤ a.length + 1) : ∀ (l : List Nat) (a : List σ), (l.foldl st a).length ≤ a.length + l.length
  | [], a => by simp
  | i :: l, a => by
    have h1 := fold_len st h l (st a i)
    have h2 := h a i
    simp only [List.foldl_cons, List.length_cons]; omega
theorem fold_len0 {σ : Type} (st : List σ → Nat → List σ) (h : ∀ a i, (st a i).length ≤ a.length + 1) (n : Nat) : ((List.range' 0 (n - 0)).foldl st []).length ≤ n := by
  have := fold_len st h (List.range' 0 (n - 0)) []
  simpa using this
theorem cut_next {t : Int} {n : Nat} (h : idxOk t n = true) (hn : n ≤ 1048576) : cutOk (wrap64 (t + 1)) n = true := by
  have h1 := idx_lo h
  have h2 := idx_hi h
  rw [wrap64_in _ (by omega)]
  unfold cutOk; simp; omega
theorem cut_self {t : Int} {n : Nat} (h : idxOk t n = true) (hn : n ≤ 1048576) : cutOk t (wrap64 (t + 1)).toNat = true := by
  have h1 := idx_lo h
  have h2 := idx_hi h
  rw [wrap64_in _ (by omega)]
  unfold cutOk; simp; omega
theorem Lm_gath {α : Type} [Inhabited α] {sm : α → Prop} (x0 : List α) (h : Lm sm x0) (c : Nat → Bool) : Lm sm ((List.range' 0 (x0.length - 0)).foldl (fun ac (i : Nat) => bif c i then ac ++ ([gt x0 (i : Int)] : List α) else ac) ([] : List α)) := by
  have key : ∀ d i (a : List α), i + d = x0.length → (∀ x ∈ a, sm x) → a.length ≤ i → (∀ x ∈ (List.range' i d).foldl (fun ac (i : Nat) => bif c i then ac ++ ([gt x0 (i : Int)] : List α) else ac) a, sm x) ∧ ((List.range' i d).foldl (fun ac (i : Nat) => bif c i then ac ++ ([gt x0 (i : Int)] : List α) else ac) a).length ≤ x0.length := by
    intro d
    induction d with
    | zero => intro i a hi ha hl; exact ⟨ha, by show a.length ≤ _; omega⟩
    | succ d ih =>
      intro i a hi ha hl
      rw [List.range'_succ, List.foldl_cons]
      refine ih (i + 1) _ (by omega) ?_ ?_
      · cases c i
        · exact ha
        · intro x hx
          rw [cond_true, List.mem_append] at hx
          rcases hx with hx | hx
          · exact ha x hx
          · rw [List.mem_singleton] at hx; subst hx; exact h.2 _ (gt_mem (by omega))
      · cases c i
        · show a.length ≤ i + 1; omega
        · simp; omega
  obtain ⟨h1, h2⟩ := key x0.length 0 [] (by omega) (fun x hx => by cases hx) (by simp)
  exact ⟨Nat.le_trans h2 h.1, h1⟩
/-! ### A loop over a row, with a state that turns, or an early end -/
def stepAll {σ τ : Type} (g : σ → τ → Option σ) : σ → List τ → Option σ
  | s, [] => some s
  | s, r :: rs => match g s r with
    | none => none
    | some t => stepAll g t rs
theorem Evt.steps {σ τ β : Type} [Inhabited τ] {L : Nat → σ → Int → Option (β ⊕ σ)} (rs : List τ) (hn : rs.length ≤ 9223372036854775807) (I : σ → Prop) (g : σ → τ → Option σ) (bad : β)
    (step : ∀ i, i < rs.length → ∀ s, I s → ∀ o, (∀ t, g s (gt rs (i : Int)) = some t → Evt (fun k => L k t (wrap64 ((i : Int) + 1))) o) → (g s (gt rs (i : Int)) = none → o = .inl bad) → Evt (fun k => L (k + 1) s (i : Int)) o)
    (pres : ∀ s r t, I s → g s r = some t → I t) (done : ∀ s, Evt (fun k => L (k + 1) s (rs.length : Int)) (.inr s)) (s : σ) (hs : I s) :
    Evt (fun k => L k s 0) (match stepAll g s rs with | some t => .inr t | none => .inl bad) := by
  have key : ∀ d i s, i + d = rs.length → I s → Evt (fun k => L k s (i : Int)) (match stepAll g s (rs.drop i) with | some t => .inr t | none => .inl bad) := by
    intro d
    induction d with
    | zero =>
      intro i s hi hs
      rw [List.drop_of_length_le (by omega)]
      have e : i = rs.length := by omega
      subst e
      exact Evt.s (done s)
    | succ d ih =>
      intro i s hi hs
      have hlt : i < rs.length := by omega
      rw [List.drop_eq_getElem_cons hlt]
      have hg : gt rs (i : Int) = rs[i] := gt_eq (by simpa using hlt)
      refine Evt.s (step i hlt s hs _ (fun t ht => ?_) (fun ht => ?_))
      · rw [hg] at ht
        rw [w64 hlt hn]
        have := ih (i + 1) t (by omega) (pres _ _ _ hs ht)
        simp only [stepAll, ht]
        exact this
      · rw [hg] at ht
        simp only [stepAll, ht]
  exact key rs.length 0 s (by omega) hs
theorem stepAll_pres {σ τ : Type} {g : σ → τ → Option σ} {I : σ → Prop} (pres : ∀ s r t, I s → g s r = some t → I t) : ∀ (rs : List τ) (s t : σ), I s → stepAll g s rs = some t → I t
  | [], s, t, hs, h => by cases h; exact hs
  | r :: rs, s, t, hs, h => by
    simp only [stepAll] at h
    cases hg : g s r with
    | none => rw [hg] at h; cases h
    | some u => rw [hg] at h; exact stepAll_pres pres rs u t (pres _ _ _ hs hg) h
theorem stepAll_same {σ τ : Type} {g g' : σ → τ → Option σ} {I : σ → Prop} (pres : ∀ s r t, I s → g s r = some t → I t) (same : ∀ s r, I s → g s r = g' s r) : ∀ (rs : List τ) (s : σ), I s → stepAll g s rs = stepAll g' s rs
  | [], s, _ => rfl
  | r :: rs, s, hs => by
    simp only [stepAll]
    rw [← same s r hs]
    cases hg : g s r with
    | none => rfl
    | some u => exact stepAll_same pres same rs u (pres _ _ _ hs hg)
theorem Lm_sub {α : Type} {sm : α → Prop} {xs ys : List α} (h : Lm sm xs) (s : ys.Sublist xs) : Lm sm ys := ⟨Nat.le_trans s.length_le h.1, fun x hx => h.2 x (s.subset hx)⟩
theorem cut_sub {α : Type} (xs : List α) {a b : Nat} (h : a ≤ b) : (xs.take a ++ xs.drop b).Sublist xs := by
  have h1 : (xs.take a ++ xs.drop b).Sublist (xs.take a ++ xs.drop a) := List.Sublist.append (.refl _) (by
    have e : xs.drop b = (xs.drop a).drop (b - a) := by rw [List.drop_drop]; congr 1; omega
    rw [e]; exact List.drop_sublist _ _)
  rw [List.take_append_drop] at h1
  exact h1
theorem fs_all {β : Type} {p : Nat → Option β} {n : Nat} (h : (List.range' 0 (n - 0)).findSome? p = none) : ∀ i, i < n → p i = none := by
  intro i hi
  rw [List.findSome?_eq_none_iff] at h
  exact h i (by rw [List.mem_range']; exact ⟨i, by omega, by omega⟩)
theorem onO_zero {l : List Nat} {p : Nat → Option Int} {c : Int} (h : onO (l.findSome? p) (fun r => r) c = 0) (hp : ∀ i, p i ≠ some 0) : l.findSome? p = none ∧ c = 0 := by
  cases hf : l.findSome? p with
  | none => rw [hf] at h; exact ⟨rfl, h⟩
  | some r =>
    rw [hf] at h
    obtain ⟨i, _, hi⟩ := List.exists_of_findSome?_eq_some hf
    have : r = 0 := h
    subst this
    exact absurd hi (hp i)
/-! ### A loop over a row, as a fold over it -/
theorem range_foldl {α β : Type} [Inhabited α] (xs : List α) (f : β → α → β) (a : β) : (List.range' 0 (xs.length - 0)).foldl (fun ac (i : Nat) => f ac (gt xs (i : Int))) a = xs.foldl f a := by
  have key : ∀ d i a, i + d = xs.length → (List.range' i d).foldl (fun ac (i : Nat) => f ac (gt xs (i : Int))) a = (xs.drop i).foldl f a := by
    intro d
    induction d with
    | zero => intro i a h; rw [List.drop_eq_nil_of_le (by omega)]; rfl
    | succ d ih =>
      intro i a h
      have hi : i < xs.length := by omega
      rw [List.range'_succ, List.foldl_cons, ih (i + 1) _ (by omega), List.drop_eq_getElem_cons hi, List.foldl_cons, gt_eq (by simpa using hi)]
      simp
  simpa using key xs.length 0 a (by omega)
theorem fold_if {α β : Type} (c : α → Bool) (g : β → α → β) : ∀ (xs : List α) (ys : List α) (b : β), (xs.foldl (fun ac x => bif c x then ac ++ [x] else ac) ys).foldl g b = xs.foldl (fun n x => bif c x then g n x else n) (ys.foldl g b)
  | [], ys, b => rfl
  | x :: xs, ys, b => by
    rw [List.foldl_cons, List.foldl_cons, fold_if c g xs]
    cases c x
    · rfl
    · rw [cond_true, cond_true, List.foldl_append]; rfl
theorem fold_map {α β : Type} (g : α → β) : ∀ (xs : List α) (ys : List β), xs.foldl (fun ac x => ac ++ [g x]) ys = ys ++ xs.map g
  | [], ys => by simp
  | x :: xs, ys => by rw [List.foldl_cons, fold_map g xs]; simp
theorem leB_of {a b : Nat} (h : a ≤ b) : leB a b = true := decide_eq_true h
theorem szMemberS_ev (x : List Member) (o : (Lok okMember) x) (l : Int) (h0 : 0 ≤ l) (h1 : l ≤ 1048576) : ∃ t, Evt (fun k => laws_szMemberS.f k x l) t ∧ t ≤ l ∧ (0 ≤ t → (Lm smMember) x) := by
  have hn := o.1
  exact ⟨szL x.length l, Evt.if_ (Evt.self _) (Evt.self _), szL_le h0 h1 hn, fun h => ⟨by have := szL_ok (n := x.length) (l := l) (by simpa using h) h0 h1 hn; omega, by simp⟩⟩
theorem szRefS_ev (x : List Ref) (o : (Lok okRef) x) (l : Int) (h0 : 0 ≤ l) (h1 : l ≤ 1048576) : ∃ t, Evt (fun k => laws_szRefS.f k x l) t ∧ t ≤ l ∧ (0 ≤ t → (Lm smRef) x) := by
  have hn := o.1
  exact ⟨szL x.length l, Evt.if_ (Evt.self _) (Evt.self _), szL_le h0 h1 hn, fun h => ⟨by have := szL_ok (n := x.length) (l := l) (by simpa using h) h0 h1 hn; omega, by simp⟩⟩
theorem szInt64S_ev (x : List Int) (o : (Lok (iOk .i64)) x) (l : Int) (h0 : 0 ≤ l) (h1 : l ≤ 1048576) : ∃ t, Evt (fun k => laws_szInt64S.f k x l) t ∧ t ≤ l ∧ (0 ≤ t → (Lm tr) x) := by
  have hn := o.1
  exact ⟨szL x.length l, Evt.if_ (Evt.self _) (Evt.self _), szL_le h0 h1 hn, fun h => ⟨by have := szL_ok (n := x.length) (l := l) (by simpa using h) h0 h1 hn; omega, by simp⟩⟩
theorem szRule_ev (x : Rule) (o : okRule x) (l : Int) (h0 : 0 ≤ l) (h1 : l ≤ 1048576) : ∃ t, Evt (fun k => laws_szRule.f k x l) t ∧ t ≤ l ∧ (0 ≤ t → smRule x) := by
  obtain ⟨t0, e0, l0, s0⟩ := szInt64S_ev x.fKeys o.1 l (by omega) (by omega)
  by_cases c0 : t0 < 0
  · exact ⟨-1, Evt.bind e0 (Evt.t (by simpa using c0) (Evt.self _)), by omega, fun h => by omega⟩
  exact ⟨t0, Evt.bind e0 (Evt.f (by simpa using c0) (Evt.self _)), by omega, fun _ => ⟨s0 (by omega), (by repeat' (first | trivial | constructor)), (by repeat' (first | trivial | constructor))⟩⟩
theorem szOut_ev (x : Out) (o : okOut x) (l : Int) (h0 : 0 ≤ l) (h1 : l ≤ 1048576) : ∃ t, Evt (fun k => laws_szOut.f k x l) t ∧ t ≤ l ∧ (0 ≤ t → smOut x) := by
  obtain ⟨t0, e0, l0, s0⟩ := szRule_ev x.fRule o.2 l (by omega) (by omega)
  by_cases c0 : t0 < 0
  · exact ⟨-1, Evt.bind e0 (Evt.t (by simpa using c0) (Evt.self _)), by omega, fun h => by omega⟩
  exact ⟨t0, Evt.bind e0 (Evt.f (by simpa using c0) (Evt.self _)), by omega, fun _ => ⟨(by repeat' (first | trivial | constructor)), s0 (by omega)⟩⟩
theorem szOutS_ev (x : List Out) (o : (Lok okOut) x) (l : Int) (h0 : 0 ≤ l) (h1 : l ≤ 1048576) : ∃ t, Evt (fun k => laws_szOutS.f k x l) t ∧ t ≤ l ∧ (0 ≤ t → (Lm smOut) x) := by
  have hn := o.1
  have hn' : x.length ≤ 9223372036854775807 := by simpa [maxLen] using hn
  by_cases c : decide (szL x.length l < 0) = true
  · refine ⟨-1, (Evt.t (f := fun _ => some (-1)) ?_ (Evt.self _)), by omega, fun h => by omega⟩
    have e : wrap64 (l - (x.length : Int)) = l - (x.length : Int) := by unfold wrap64; omega
    rw [e]
    by_cases c2 : l - (x.length : Int) < 0
    · exact decide_eq_true c2
    · unfold szL at c; rw [e, decide_eq_false c2] at c; simp at c; omega
  have c' : decide (szL x.length l < 0) = false := by simpa using c
  obtain ⟨h2, h3⟩ := szL_ok c' h0 h1 hn
  have e : wrap64 (l - (x.length : Int)) = l - (x.length : Int) := by unfold wrap64; omega
  obtain ⟨r, hr, hr2⟩ := Evt.szl (L := fun k left i => laws_szOutS.l0 x k left i) (sm := smOut) x hn' (fun i hi left a0 a1 => by
    obtain ⟨t, e1, e2, e3⟩ := szOut_ev (gt x (i : Int)) (o.2 _ (gt_mem hi)) left a0 a1
    refine ⟨t, e2, e3, fun c => ?_, fun o c ho => ?_⟩
    · refine Evt.s ?_
      simp only [laws_szOutS.l0_s]
      exact Evt.t (int_lt hi) (Evt.chk (idx_ok hi) (Evt.bind e1 (Evt.t (by simpa using c) (Evt.self _))))
    · refine Evt.s ?_
      simp only [laws_szOutS.l0_s]
      exact Evt.t (int_lt hi) (Evt.chk (idx_ok hi) (Evt.bind e1 (Evt.f (by simpa using c) ho)))) (fun left => by
    refine Evt.s ?_
    simp only [laws_szOutS.l0_s]
    exact Evt.f int_nlt (Evt.self _)) (l - (x.length : Int)) (by omega) (by omega)
  refine ⟨onw r id id, Evt.f (by rw [e]; simpa using h2) (Evt.thn (r' := id) (g' := id) (by rw [e]; exact hr) (fun _ => rfl) (fun y _ => Evt.self y)), ?_, ?_⟩
  · cases r with
    | inl r => have h5 : r = -1 := hr2; subst h5; show (-1 : Int) ≤ l; omega
    | inr t => have h5 : 0 ≤ t ∧ t ≤ l - (x.length : Int) ∧ _ := hr2; show t ≤ l; omega
  · intro h
    cases r with
    | inl r => have h5 : r = -1 := hr2; subst h5; simp [onw] at h
    | inr t => have h5 : 0 ≤ t ∧ t ≤ l - (x.length : Int) ∧ _ := hr2; exact ⟨by omega, h5.2.2⟩
theorem szTx_ev (x : Tx) (o : okTx x) (l : Int) (h0 : 0 ≤ l) (h1 : l ≤ 1048576) : ∃ t, Evt (fun k => laws_szTx.f k x l) t ∧ t ≤ l ∧ (0 ≤ t → smTx x) := by
  obtain ⟨t0, e0, l0, s0⟩ := szRefS_ev x.fIns o.2.2.1 l (by omega) (by omega)
  by_cases c0 : t0 < 0
  · exact ⟨-1, Evt.bind e0 (Evt.t (by simpa using c0) (Evt.self _)), by omega, fun h => by omega⟩
  obtain ⟨t1, e1, l1, s1⟩ := szOutS_ev x.fOuts o.2.2.2 t0 (by omega) (by omega)
  by_cases c1 : t1 < 0
  · exact ⟨-1, Evt.bind e0 (Evt.f (by simpa using c0) (Evt.bind e1 (Evt.t (by simpa using c1) (Evt.self _)))), by omega, fun h => by omega⟩
  exact ⟨t1, Evt.bind e0 (Evt.f (by simpa using c0) (Evt.bind e1 (Evt.f (by simpa using c1) (Evt.self _)))), by omega, fun _ => ⟨(by repeat' (first | trivial | constructor)), (by repeat' (first | trivial | constructor)), s0 (by omega), s1 (by omega)⟩⟩
theorem toRef_ev (x : Ref) (h : smRef x) : Evt (fun k => laws_toRef.f k x) x := Evt.self _
theorem toMember_ev (x : Member) (h : smMember x) : Evt (fun k => laws_toMember.f k x) x := Evt.bind (toRef_ev _ h.2) (Evt.self _)
theorem toMemberS_ev (x : List Member) (h : (Lm smMember) x) : Evt (fun k => laws_toMemberS.f k x) x := by
  have hn := h.1
  refine Evt.chk (by simp) (Evt.chk (by simp [leB]; omega) (Evt.bind (a := x) ?_ (Evt.self _)))
  have := Evt.copy (L := fun k acc i => laws_toMemberS.l0 x k acc i) x id (by omega) (fun acc i hl hi r hr => ?_) (fun acc => ?_) (List.replicate ((x.length : Int)).toNat (⟨0, (⟨0, 0⟩ : Ref)⟩ : Member)) (by simp)
  · simpa using this
  · refine Evt.s ?_
    simp only [laws_toMemberS.l0_s]
    refine Evt.t (int_lt hi) (Evt.chk (idx_ok hi) (Evt.bind (toMember_ev _ (h.2 _ (gt_mem hi))) (Evt.chk (idx_ok (hl ▸ hi)) ?_)))
    simpa using hr
  · refine Evt.s ?_
    simp only [laws_toMemberS.l0_s]
    exact Evt.f int_nlt (Evt.self _)
theorem toRefS_ev (x : List Ref) (h : (Lm smRef) x) : Evt (fun k => laws_toRefS.f k x) x := by
  have hn := h.1
  refine Evt.chk (by simp) (Evt.chk (by simp [leB]; omega) (Evt.bind (a := x) ?_ (Evt.self _)))
  have := Evt.copy (L := fun k acc i => laws_toRefS.l0 x k acc i) x id (by omega) (fun acc i hl hi r hr => ?_) (fun acc => ?_) (List.replicate ((x.length : Int)).toNat (⟨0, 0⟩ : Ref)) (by simp)
  · simpa using this
  · refine Evt.s ?_
    simp only [laws_toRefS.l0_s]
    refine Evt.t (int_lt hi) (Evt.chk (idx_ok hi) (Evt.bind (toRef_ev _ (h.2 _ (gt_mem hi))) (Evt.chk (idx_ok (hl ▸ hi)) ?_)))
    simpa using hr
  · refine Evt.s ?_
    simp only [laws_toRefS.l0_s]
    exact Evt.f int_nlt (Evt.self _)
theorem toInt64S_ev (x : List Int) (h : (Lm tr) x) : Evt (fun k => laws_toInt64S.f k x) x := by
  have hn := h.1
  refine Evt.chk (by simp) (Evt.chk (by simp [leB]; omega) (Evt.bind (a := x) ?_ (Evt.self _)))
  have := Evt.copy (L := fun k acc i => laws_toInt64S.l0 x k acc i) x id (by omega) (fun acc i hl hi r hr => ?_) (fun acc => ?_) (List.replicate ((x.length : Int)).toNat 0) (by simp)
  · simpa using this
  · refine Evt.s ?_
    simp only [laws_toInt64S.l0_s]
    refine Evt.t (int_lt hi) (Evt.chk (idx_ok hi) (Evt.chk (idx_ok (hl ▸ hi)) ?_))
    simpa using hr
  · refine Evt.s ?_
    simp only [laws_toInt64S.l0_s]
    exact Evt.f int_nlt (Evt.self _)
theorem toRule_ev (x : Rule) (h : smRule x) : Evt (fun k => laws_toRule.f k x) x := Evt.bind (toInt64S_ev _ h.1) (Evt.self _)
theorem toOut_ev (x : Out) (h : smOut x) : Evt (fun k => laws_toOut.f k x) x := Evt.bind (toRule_ev _ h.2) (Evt.self _)
theorem toOutS_ev (x : List Out) (h : (Lm smOut) x) : Evt (fun k => laws_toOutS.f k x) x := by
  have hn := h.1
  refine Evt.chk (by simp) (Evt.chk (by simp [leB]; omega) (Evt.bind (a := x) ?_ (Evt.self _)))
  have := Evt.copy (L := fun k acc i => laws_toOutS.l0 x k acc i) x id (by omega) (fun acc i hl hi r hr => ?_) (fun acc => ?_) (List.replicate ((x.length : Int)).toNat (⟨0, (⟨[], 0, 0⟩ : Rule)⟩ : Out)) (by simp)
  · simpa using this
  · refine Evt.s ?_
    simp only [laws_toOutS.l0_s]
    refine Evt.t (int_lt hi) (Evt.chk (idx_ok hi) (Evt.bind (toOut_ev _ (h.2 _ (gt_mem hi))) (Evt.chk (idx_ok (hl ▸ hi)) ?_)))
    simpa using hr
  · refine Evt.s ?_
    simp only [laws_toOutS.l0_s]
    exact Evt.f int_nlt (Evt.self _)
theorem toTx_ev (x : Tx) (h : smTx x) : Evt (fun k => laws_toTx.f k x) x := Evt.bind (toRefS_ev _ h.2.2.1) (Evt.bind (toOutS_ev _ h.2.2.2) (Evt.self _))
def spec_l1In_v (x0 : Int) (x1 : Int) (x2 : Int) : Bool := ((decide (x1 ≤ x0)) && (decide (x0 ≤ x2)))
theorem spec_l1In_ev (x0 : Int) (x1 : Int) (x2 : Int)  : Evt (fun k => spec_l1In.f k x0 x1 x2) (spec_l1In_v x0 x1 x2) :=
  (Evt.self _)
def spec_l1Key_v (x0 : Int) : Bool := (spec_l1In_v x0 1 999)
theorem spec_l1Key_ev (x0 : Int)  : Evt (fun k => spec_l1Key.f k x0) (spec_l1Key_v x0) :=
  (Evt.bind (spec_l1In_ev x0 1 999) (Evt.self _))
def spec_l3Ref_v (x0 : Ref) : Bool := ((spec_l1In_v x0.fTx 1 60) && (bif (spec_l1In_v x0.fTx 1 60) then (spec_l1In_v x0.fAt 0 3) else default))
theorem spec_l3Ref_ev (x0 : Ref)  : Evt (fun k => spec_l3Ref.f k x0) (spec_l3Ref_v x0) :=
  (Evt.bind (spec_l1In_ev x0.fTx 1 60) (Evt.bind (Evt.ifh (fun _ => (spec_l1In_ev x0.fAt 0 3)) (fun _ => Evt.self _)) (Evt.self _)))
def spec_l6Fault_v (x0 : List Member) : Int := (bif (decide (8 < (x0.length : Int))) then 2 else (onO ((List.range' 0 (x0.length - 0)).findSome? (fun (i0 : Nat) => (bif ((!(spec_l1Key_v ((gt x0 (i0 : Int)).fKey))) || (!(bif (!(!(spec_l1Key_v ((gt x0 (i0 : Int)).fKey)))) then (spec_l3Ref_v ((gt x0 (i0 : Int)).fRef)) else default))) then (some 3) else (bif ((decide (0 < (i0 : Int))) && (decide (((gt x0 (i0 : Int)).fKey) ≤ ((gt x0 (wrap64 ((i0 : Int) - 1))).fKey)))) then (some 1) else none)))) (fun r => r) (onO ((List.range' 0 (x0.length - 0)).findSome? (fun (i3 : Nat) => (onO ((List.range' 0 (i3 - 0)).findSome? (fun (i4 : Nat) => (bif ((((gt x0 (i4 : Int)).fRef.fTx) == ((gt x0 (i3 : Int)).fRef.fTx)) && (((gt x0 (i4 : Int)).fRef.fAt) == ((gt x0 (i3 : Int)).fRef.fAt))) then (some 7) else none))) (fun r => (some r)) none))) (fun r => r) 0)))
theorem spec_l6Fault_ev (x0 : List Member) (h_x0 : (Lm smMember) x0) : Evt (fun k => spec_l6Fault.f k x0) (spec_l6Fault_v x0) :=
  (Evt.ifh (fun hc6 => (Evt.self _)) (fun hc6 => (Evt.loop (r' := fun r => r) (Evt.srch (L := (fun k i => spec_l6Fault.l0 x0 k i)) 0 x0.length (by have := h_x0; first | (have := this.1; omega) | omega) (fun (i0 : Nat) => (bif ((!(spec_l1Key_v ((gt x0 (i0 : Int)).fKey))) || (!(bif (!(!(spec_l1Key_v ((gt x0 (i0 : Int)).fKey)))) then (spec_l3Ref_v ((gt x0 (i0 : Int)).fRef)) else default))) then (some 3) else (bif ((decide (0 < (i0 : Int))) && (decide (((gt x0 (i0 : Int)).fKey) ≤ ((gt x0 (wrap64 ((i0 : Int) - 1))).fKey)))) then (some 1) else none))) (fun i0 hs3 hi3 => by
  have hbn : x0.length ≤ 9223372036854775807 := (by have := h_x0; first | (have := this.1; omega) | omega)
  simp only [spec_l6Fault.l0_s]
  exact Evt_t2 (int_lt hi3) (StE.chk (by first | exact idx_ok (by omega) | exact idx_ok (by have hq := len_eq (by assumption); omega) | exact idx_found (show (0 : Int) ≤ (i0 : Int) by simp_all) | exact cut_ok (by omega) | exact or_ok (idx_ok (by omega)) | (refine or1 (fun hz => pre_ok (by simp at hz; omega) (by omega) (by omega))) | exact pre_ok (by omega) (by omega) (by omega) | (simp_all [idxOk, cutOk, leB]; done) | (simp_all [idxOk, cutOk, leB]; omega) | (simp [idxOk, cutOk, leB] at *; omega) | (have hf0 := h_x0.1; simp only [leB, decide_eq_true_eq, List.length_append, List.length_cons, List.length_nil]; omega)) (StE.bind (spec_l1Key_ev ((gt x0 (i0 : Int)).fKey)) (StE.chk (by first | exact idx_ok (by omega) | exact idx_ok (by have hq := len_eq (by assumption); omega) | exact idx_found (by simp_all) | exact cut_ok (by omega) | exact or_ok (idx_ok (by omega)) | (refine or1 (fun hz => pre_ok (by simp at hz; omega) (by omega) (by omega))) | exact pre_ok (by omega) (by omega) (by omega) | (simp_all [idxOk, cutOk, leB]; done) | (simp_all [idxOk, cutOk, leB]; omega) | (simp [idxOk, cutOk, leB] at *; omega) | (have hf0 := h_x0.1; simp only [leB, decide_eq_true_eq, List.length_append, List.length_cons, List.length_nil]; omega)) (StE.bind (Evt.ifh (fun _ => (spec_l3Ref_ev ((gt x0 (i0 : Int)).fRef))) (fun _ => Evt.self _)) (StE.ifh (fun hc2 => (StE.ret _)) (fun hc2 => (StE.chk (by first | exact idx_ok (by omega) | exact idx_ok (by have hq := len_eq (by assumption); omega) | exact idx_found (by simp_all) | exact cut_ok (by omega) | exact or_ok (idx_ok (by omega)) | (refine or1 (fun hz => pre_ok (by simp at hz; omega) (by omega) (by omega))) | exact pre_ok (by omega) (by omega) (by omega) | (simp_all [idxOk, cutOk, leB]; done) | (simp_all [idxOk, cutOk, leB]; omega) | (simp [idxOk, cutOk, leB] at *; omega) | (have hf0 := h_x0.1; simp only [leB, decide_eq_true_eq, List.length_append, List.length_cons, List.length_nil]; omega)) (StE.chk (by first | exact idx_ok (by omega) | exact idx_ok (by have hq := len_eq (by assumption); omega) | exact idx_found (by simp_all) | exact cut_ok (by omega) | exact or_ok (idx_ok (by omega)) | (refine or1 (fun hz => pre_ok (by simp at hz; omega) (by omega) (by omega))) | exact pre_ok (by omega) (by omega) (by omega) | (simp_all [idxOk, cutOk, leB]; done) | (simp_all [idxOk, cutOk, leB]; omega) | (simp [idxOk, cutOk, leB] at *; omega) | (have hf0 := h_x0.1; simp only [leB, decide_eq_true_eq, List.length_append, List.length_cons, List.length_nil]; omega)) (StE.ifh (fun hc1 => (StE.ret _)) (fun hc1 => StE.next))))))))))) (fun j hj => by
  simp only [spec_l6Fault.l0_s]
  exact Evt.f (ge_lt hj) (Evt.self _))) (fun _ => rfl) (Evt.loop (r' := fun r => r) (Evt.srch (L := (fun k i => spec_l6Fault.l1 x0 k i)) 0 x0.length (by have := h_x0; first | (have := this.1; omega) | omega) (fun (i3 : Nat) => (onO ((List.range' 0 (i3 - 0)).findSome? (fun (i4 : Nat) => (bif ((((gt x0 (i4 : Int)).fRef.fTx) == ((gt x0 (i3 : Int)).fRef.fTx)) && (((gt x0 (i4 : Int)).fRef.fAt) == ((gt x0 (i3 : Int)).fRef.fAt))) then (some 7) else none))) (fun r => (some r)) none)) (fun i3 hs6 hi6 => by
  have hbn : x0.length ≤ 9223372036854775807 := (by have := h_x0; first | (have := this.1; omega) | omega)
  simp only [spec_l6Fault.l1_s]
  exact Evt_t2 (int_lt hi6) (StE.loop (r' := fun r => (some r)) (Evt.srch (L := (fun k i => spec_l6Fault.l2 x0 (i3 : Int) k i)) 0 i3 (by omega) (fun (i4 : Nat) => (bif ((((gt x0 (i4 : Int)).fRef.fTx) == ((gt x0 (i3 : Int)).fRef.fTx)) && (((gt x0 (i4 : Int)).fRef.fAt) == ((gt x0 (i3 : Int)).fRef.fAt))) then (some 7) else none)) (fun i4 hs6 hi6 => by
  have hbn : i3 ≤ 9223372036854775807 := (by omega)
  simp only [spec_l6Fault.l2_s]
  exact Evt_t2 (int_lt hi6) (StE.chk (by first | exact idx_ok (by omega) | exact idx_ok (by have hq := len_eq (by assumption); omega) | exact idx_found (show (0 : Int) ≤ (i4 : Int) by simp_all) | exact cut_ok (by omega) | exact or_ok (idx_ok (by omega)) | (refine or1 (fun hz => pre_ok (by simp at hz; omega) (by omega) (by omega))) | exact pre_ok (by omega) (by omega) (by omega) | (simp_all [idxOk, cutOk, leB]; done) | (simp_all [idxOk, cutOk, leB]; omega) | (simp [idxOk, cutOk, leB] at *; omega) | (have hf0 := h_x0.1; simp only [leB, decide_eq_true_eq, List.length_append, List.length_cons, List.length_nil]; omega)) (StE.chk (by first | exact idx_ok (by omega) | exact idx_ok (by have hq := len_eq (by assumption); omega) | exact idx_found (show (0 : Int) ≤ (i3 : Int) by simp_all) | exact cut_ok (by omega) | exact or_ok (idx_ok (by omega)) | (refine or1 (fun hz => pre_ok (by simp at hz; omega) (by omega) (by omega))) | exact pre_ok (by omega) (by omega) (by omega) | (simp_all [idxOk, cutOk, leB]; done) | (simp_all [idxOk, cutOk, leB]; omega) | (simp [idxOk, cutOk, leB] at *; omega) | (have hf0 := h_x0.1; simp only [leB, decide_eq_true_eq, List.length_append, List.length_cons, List.length_nil]; omega)) (StE.ifh (fun hc5 => (StE.ret _)) (fun hc5 => StE.next))))) (fun j hj => by
  simp only [spec_l6Fault.l2_s]
  exact Evt.f (ge_lt hj) (Evt.self _))) (fun _ => (StE.ret _)) StE.next)) (fun j hj => by
  simp only [spec_l6Fault.l1_s]
  exact Evt.f (ge_lt hj) (Evt.self _))) (fun _ => rfl) (Evt.self _)))))
def spec_l3Among_v (x0 : List Ref) (x1 : Ref) : Bool := (onO ((List.range' 0 (x0.length - 0)).findSome? (fun (i0 : Nat) => (bif ((((gt x0 (i0 : Int)).fTx) == x1.fTx) && (((gt x0 (i0 : Int)).fAt) == x1.fAt)) then (some true) else none))) (fun r => r) false)
theorem spec_l3Among_ev (x0 : List Ref) (x1 : Ref) (h_x0 : (Lm smRef) x0) : Evt (fun k => spec_l3Among.f k x0 x1) (spec_l3Among_v x0 x1) :=
  (Evt.loop (r' := fun r => r) (Evt.srch (L := (fun k i => spec_l3Among.l0 x0 x1 k i)) 0 x0.length (by have := h_x0; first | (have := this.1; omega) | omega) (fun (i0 : Nat) => (bif ((((gt x0 (i0 : Int)).fTx) == x1.fTx) && (((gt x0 (i0 : Int)).fAt) == x1.fAt)) then (some true) else none)) (fun i0 hs2 hi2 => by
  have hbn : x0.length ≤ 9223372036854775807 := (by have := h_x0; first | (have := this.1; omega) | omega)
  simp only [spec_l3Among.l0_s]
  exact Evt_t2 (int_lt hi2) (StE.chk (by first | exact idx_ok (by omega) | exact idx_ok (by have hq := len_eq (by assumption); omega) | exact idx_found (show (0 : Int) ≤ (i0 : Int) by simp_all) | exact cut_ok (by omega) | exact or_ok (idx_ok (by omega)) | (refine or1 (fun hz => pre_ok (by simp at hz; omega) (by omega) (by omega))) | exact pre_ok (by omega) (by omega) (by omega) | (simp_all [idxOk, cutOk, leB]; done) | (simp_all [idxOk, cutOk, leB]; omega) | (simp [idxOk, cutOk, leB] at *; omega) | (have hf0 := h_x0.1; simp only [leB, decide_eq_true_eq, List.length_append, List.length_cons, List.length_nil]; omega)) (StE.ifh (fun hc1 => (StE.ret _)) (fun hc1 => StE.next)))) (fun j hj => by
  simp only [spec_l3Among.l0_s]
  exact Evt.f (ge_lt hj) (Evt.self _))) (fun _ => rfl) (Evt.self _))
def spec_l2Height_v (x0 : Int) : Bool := (spec_l1In_v x0 0 999)
theorem spec_l2Height_ev (x0 : Int)  : Evt (fun k => spec_l2Height.f k x0) (spec_l2Height_v x0) :=
  (Evt.bind (spec_l1In_ev x0 0 999) (Evt.self _))
def spec_l2Fault_v (x0 : Rule) : Int := (bif !(spec_l1In_v (x0.fKeys.length : Int) 1 3) then 2 else (onO ((List.range' 0 (x0.fKeys.length - 0)).findSome? (fun (i0 : Nat) => (bif !(spec_l1Key_v (gt x0.fKeys (i0 : Int))) then (some 3) else none))) (fun r => r) (bif ((!(spec_l1In_v x0.fNeed 1 (x0.fKeys.length : Int))) || (!(bif (!(!(spec_l1In_v x0.fNeed 1 (x0.fKeys.length : Int)))) then (spec_l2Height_v x0.fAfter) else default))) then 3 else (onO ((List.range' 1 (x0.fKeys.length - 1)).findSome? (fun (i2 : Nat) => (bif (decide ((gt x0.fKeys (i2 : Int)) ≤ (gt x0.fKeys (wrap64 ((i2 : Int) - 1))))) then (some 1) else none))) (fun r => r) 0))))
theorem spec_l2Fault_ev (x0 : Rule) (h_x0 : smRule x0) : Evt (fun k => spec_l2Fault.f k x0) (spec_l2Fault_v x0) :=
  (Evt.bind (spec_l1In_ev (x0.fKeys.length : Int) 1 3) (Evt.ifh (fun hc5 => (Evt.self _)) (fun hc5 => (Evt.loop (r' := fun r => r) (Evt.srch (L := (fun k i => spec_l2Fault.l0 x0 k i)) 0 x0.fKeys.length (by have := h_x0.1; first | (have := this.1; omega) | omega) (fun (i0 : Nat) => (bif !(spec_l1Key_v (gt x0.fKeys (i0 : Int))) then (some 3) else none)) (fun i0 hs2 hi2 => by
  have hbn : x0.fKeys.length ≤ 9223372036854775807 := (by have := h_x0.1; first | (have := this.1; omega) | omega)
  simp only [spec_l2Fault.l0_s]
  exact Evt_t2 (int_lt hi2) (StE.chk (by first | exact idx_ok (by omega) | exact idx_ok (by have hq := len_eq (by assumption); omega) | exact idx_found (show (0 : Int) ≤ (i0 : Int) by simp_all) | exact cut_ok (by omega) | exact or_ok (idx_ok (by omega)) | (refine or1 (fun hz => pre_ok (by simp at hz; omega) (by omega) (by omega))) | exact pre_ok (by omega) (by omega) (by omega) | (simp_all [idxOk, cutOk, leB]; done) | (simp_all [idxOk, cutOk, leB]; omega) | (simp [idxOk, cutOk, leB] at *; omega) | (have hf0 := h_x0.1.1; simp only [leB, decide_eq_true_eq, List.length_append, List.length_cons, List.length_nil]; omega)) (StE.bind (spec_l1Key_ev (gt x0.fKeys (i0 : Int))) (StE.ifh (fun hc1 => (StE.ret _)) (fun hc1 => StE.next))))) (fun j hj => by
  simp only [spec_l2Fault.l0_s]
  exact Evt.f (ge_lt hj) (Evt.self _))) (fun _ => rfl) (Evt.bind (spec_l1In_ev x0.fNeed 1 (x0.fKeys.length : Int)) (Evt.bind (Evt.ifh (fun _ => (spec_l2Height_ev x0.fAfter)) (fun _ => Evt.self _)) (Evt.ifh (fun hc4 => (Evt.self _)) (fun hc4 => (Evt.loop (r' := fun r => r) (Evt.srch (L := (fun k i => spec_l2Fault.l1 x0 k i)) 1 x0.fKeys.length (by have := h_x0.1; first | (have := this.1; omega) | omega) (fun (i2 : Nat) => (bif (decide ((gt x0.fKeys (i2 : Int)) ≤ (gt x0.fKeys (wrap64 ((i2 : Int) - 1))))) then (some 1) else none)) (fun i2 hs4 hi4 => by
  have hbn : x0.fKeys.length ≤ 9223372036854775807 := (by have := h_x0.1; first | (have := this.1; omega) | omega)
  simp only [spec_l2Fault.l1_s]
  exact Evt_t2 (int_lt hi4) (StE.chk (by first | exact idx_ok (by omega) | exact idx_ok (by have hq := len_eq (by assumption); omega) | exact idx_found (show (0 : Int) ≤ (i2 : Int) by simp_all) | exact cut_ok (by omega) | exact or_ok (idx_ok (by omega)) | (refine or1 (fun hz => pre_ok (by simp at hz; omega) (by omega) (by omega))) | exact pre_ok (by omega) (by omega) (by omega) | (simp_all [idxOk, cutOk, leB]; done) | (simp_all [idxOk, cutOk, leB]; omega) | (simp [idxOk, cutOk, leB] at *; omega) | (have hf0 := h_x0.1.1; simp only [leB, decide_eq_true_eq, List.length_append, List.length_cons, List.length_nil]; omega)) (StE.chk (by first | exact idx_ok (by omega) | exact idx_ok (by have hq := len_eq (by assumption); omega) | exact idx_found (show (0 : Int) ≤ (wrap64 ((i2 : Int) - 1)) by simp_all) | exact cut_ok (by omega) | exact or_ok (idx_ok (by omega)) | (refine or1 (fun hz => pre_ok (by simp at hz; omega) (by omega) (by omega))) | exact pre_ok (by omega) (by omega) (by omega) | (simp_all [idxOk, cutOk, leB]; done) | (simp_all [idxOk, cutOk, leB]; omega) | (simp [idxOk, cutOk, leB] at *; omega) | (have hf0 := h_x0.1.1; simp only [leB, decide_eq_true_eq, List.length_append, List.length_cons, List.length_nil]; omega)) (StE.ifh (fun hc3 => (StE.ret _)) (fun hc3 => StE.next))))) (fun j hj => by
  simp only [spec_l2Fault.l1_s]
  exact Evt.f (ge_lt hj) (Evt.self _))) (fun _ => rfl) (Evt.self _))))))))))
def spec_l3Outs_v (x0 : Tx) : Int := (onO ((List.range' 0 (x0.fOuts.length - 0)).findSome? (fun (i0 : Nat) => (bif !(spec_l1In_v ((gt x0.fOuts (i0 : Int)).fValue) 1 1000000) then (some 3) else (bif ((spec_l2Fault_v ((gt x0.fOuts (i0 : Int)).fRule)) != 0) then (some (spec_l2Fault_v ((gt x0.fOuts (i0 : Int)).fRule))) else none)))) (fun r => r) (bif ((x0.fKind == 1) && (decide (((gt x0.fOuts (0 : Int)).fValue) < 100))) then 8 else 0))
theorem spec_l3Outs_ev (x0 : Tx) (h_x0 : smTx x0) (hpre : 0 < x0.fOuts.length) : Evt (fun k => spec_l3Outs.f k x0) (spec_l3Outs_v x0) :=
  (Evt.loop (r' := fun r => r) (Evt.srch (L := (fun k i => spec_l3Outs.l0 x0 k i)) 0 x0.fOuts.length (by have := h_x0.2.2.2; first | (have := this.1; omega) | omega) (fun (i0 : Nat) => (bif !(spec_l1In_v ((gt x0.fOuts (i0 : Int)).fValue) 1 1000000) then (some 3) else (bif ((spec_l2Fault_v ((gt x0.fOuts (i0 : Int)).fRule)) != 0) then (some (spec_l2Fault_v ((gt x0.fOuts (i0 : Int)).fRule))) else none))) (fun i0 hs3 hi3 => by
  have hbn : x0.fOuts.length ≤ 9223372036854775807 := (by have := h_x0.2.2.2; first | (have := this.1; omega) | omega)
  simp only [spec_l3Outs.l0_s]
  exact Evt_t2 (int_lt hi3) (StE.chk (by first | exact idx_ok (by omega) | exact idx_ok (by have hq := len_eq (by assumption); omega) | exact idx_found (show (0 : Int) ≤ (i0 : Int) by simp_all) | exact cut_ok (by omega) | exact or_ok (idx_ok (by omega)) | (refine or1 (fun hz => pre_ok (by simp at hz; omega) (by omega) (by omega))) | exact pre_ok (by omega) (by omega) (by omega) | (simp_all [idxOk, cutOk, leB]; done) | (simp_all [idxOk, cutOk, leB]; omega) | (simp [idxOk, cutOk, leB] at *; omega) | (simp_all [idxOk]; omega) | (simp [idxOk]; omega) | (have hf0 := h_x0.2.2.1.1; have hf1 := h_x0.2.2.2.1; simp only [leB, decide_eq_true_eq, List.length_append, List.length_cons, List.length_nil]; omega)) (StE.bind (spec_l1In_ev ((gt x0.fOuts (i0 : Int)).fValue) 1 1000000) (StE.ifh (fun hc2 => (StE.ret _)) (fun hc2 => (StE.chk (by first | exact idx_ok (by omega) | exact idx_ok (by have hq := len_eq (by assumption); omega) | exact idx_found (show (0 : Int) ≤ (i0 : Int) by simp_all) | exact cut_ok (by omega) | exact or_ok (idx_ok (by omega)) | (refine or1 (fun hz => pre_ok (by simp at hz; omega) (by omega) (by omega))) | exact pre_ok (by omega) (by omega) (by omega) | (simp_all [idxOk, cutOk, leB]; done) | (simp_all [idxOk, cutOk, leB]; omega) | (simp [idxOk, cutOk, leB] at *; omega) | (simp_all [idxOk]; omega) | (simp [idxOk]; omega) | (have hf0 := h_x0.2.2.1.1; have hf1 := h_x0.2.2.2.1; simp only [leB, decide_eq_true_eq, List.length_append, List.length_cons, List.length_nil]; omega)) (StE.bind (spec_l2Fault_ev ((gt x0.fOuts (i0 : Int)).fRule) (((h_x0.2.2.2).2 _ (gt_mem (by first | omega | (have hq := len_eq (by assumption); omega) | (simp_all [idxOk]; omega) | (simp [idxOk]; omega) | (have hf0 := h_x0.2.2.1.1; have hf1 := h_x0.2.2.2.1; simp only [leB, decide_eq_true_eq, List.length_append, List.length_cons, List.length_nil]; omega)))).2)) (StE.ifh (fun hc1 => (StE.ret _)) (fun hc1 => StE.next))))))))) (fun j hj => by
  simp only [spec_l3Outs.l0_s]
  exact Evt.f (ge_lt hj) (Evt.self _))) (fun _ => rfl) (Evt.chk (by first | exact idx_ok (by omega) | exact idx_ok (by have hq := len_eq (by assumption); omega) | exact idx_found (by simp_all) | exact cut_ok (by omega) | exact or_ok (idx_ok (by omega)) | (refine or1 (fun hz => pre_ok (by simp at hz; omega) (by omega) (by omega))) | exact pre_ok (by omega) (by omega) (by omega) | (simp_all [idxOk, cutOk, leB]; done) | (simp_all [idxOk, cutOk, leB]; omega) | (simp [idxOk, cutOk, leB] at *; omega) | (simp_all [idxOk]; omega) | (simp [idxOk]; omega) | (have hf0 := h_x0.2.2.1.1; have hf1 := h_x0.2.2.2.1; simp only [leB, decide_eq_true_eq, List.length_append, List.length_cons, List.length_nil]; omega)) (Evt.ifh (fun hc3 => (Evt.self _)) (fun hc3 => (Evt.self _)))))
def spec_l3Fault_v (x0 : Tx) : Int := (bif ((!(spec_l1In_v x0.fKind 0 2)) || ((x0.fKind == 0) != (x0.fMember == 0))) then 1 else (bif ((x0.fKind != 0) && (!(bif (x0.fKind != 0) then (spec_l1Key_v x0.fMember) else default))) then 3 else (bif ((!(spec_l1In_v (x0.fIns.length : Int) 1 4)) || (!(bif (!(!(spec_l1In_v (x0.fIns.length : Int) 1 4))) then (spec_l1In_v (x0.fOuts.length : Int) 1 4) else default))) then 2 else (onO ((List.range' 0 (x0.fIns.length - 0)).findSome? (fun (i0 : Nat) => (bif !(spec_l3Ref_v (gt x0.fIns (i0 : Int))) then (some 3) else (bif (spec_l3Among_v (x0.fIns.take ((i0 : Int)).toNat) (gt x0.fIns (i0 : Int))) then (some 7) else none)))) (fun r => r) (spec_l3Outs_v x0)))))
theorem spec_l3Fault_ev (x0 : Tx) (h_x0 : smTx x0) : Evt (fun k => spec_l3Fault.f k x0) (spec_l3Fault_v x0) :=
  (Evt.bind (spec_l1In_ev x0.fKind 0 2) (Evt.ifh (fun hc5 => (Evt.self _)) (fun hc5 => (Evt.bind (Evt.ifh (fun _ => (spec_l1Key_ev x0.fMember)) (fun _ => Evt.self _)) (Evt.ifh (fun hc4 => (Evt.self _)) (fun hc4 => (Evt.bind (spec_l1In_ev (x0.fIns.length : Int) 1 4) (Evt.bind (Evt.ifh (fun _ => (spec_l1In_ev (x0.fOuts.length : Int) 1 4)) (fun _ => Evt.self _)) (Evt.ifh (fun hc3 => (Evt.self _)) (fun hc3 => (Evt.loop (r' := fun r => r) (Evt.srch (L := (fun k i => spec_l3Fault.l0 x0 k i)) 0 x0.fIns.length (by have := h_x0.2.2.1; first | (have := this.1; omega) | omega) (fun (i0 : Nat) => (bif !(spec_l3Ref_v (gt x0.fIns (i0 : Int))) then (some 3) else (bif (spec_l3Among_v (x0.fIns.take ((i0 : Int)).toNat) (gt x0.fIns (i0 : Int))) then (some 7) else none))) (fun i0 hs3 hi3 => by
  have hbn : x0.fIns.length ≤ 9223372036854775807 := (by have := h_x0.2.2.1; first | (have := this.1; omega) | omega)
  simp only [spec_l3Fault.l0_s]
  exact Evt_t2 (int_lt hi3) (StE.chk (by first | exact idx_ok (by omega) | exact idx_ok (by have hq := len_eq (by assumption); omega) | exact idx_found (show (0 : Int) ≤ (i0 : Int) by simp_all) | exact cut_ok (by omega) | exact or_ok (idx_ok (by omega)) | (refine or1 (fun hz => pre_ok (by simp at hz; omega) (by omega) (by omega))) | exact pre_ok (by omega) (by omega) (by omega) | (simp_all [idxOk, cutOk, leB]; done) | (simp_all [idxOk, cutOk, leB]; omega) | (simp [idxOk, cutOk, leB] at *; omega) | (simp_all [spec_l1In_v]; omega) | (have hf0 := h_x0.2.2.1.1; have hf1 := h_x0.2.2.2.1; simp only [leB, decide_eq_true_eq, List.length_append, List.length_cons, List.length_nil]; omega)) (StE.bind (spec_l3Ref_ev (gt x0.fIns (i0 : Int))) (StE.ifh (fun hc2 => (StE.ret _)) (fun hc2 => (StE.chk (by first | exact idx_ok (by omega) | exact idx_ok (by have hq := len_eq (by assumption); omega) | exact idx_found (by simp_all) | exact cut_ok (by omega) | exact or_ok (idx_ok (by omega)) | (refine or1 (fun hz => pre_ok (by simp at hz; omega) (by omega) (by omega))) | exact pre_ok (by omega) (by omega) (by omega) | (simp_all [idxOk, cutOk, leB]; done) | (simp_all [idxOk, cutOk, leB]; omega) | (simp [idxOk, cutOk, leB] at *; omega) | (simp_all [spec_l1In_v]; omega) | (have hf0 := h_x0.2.2.1.1; have hf1 := h_x0.2.2.2.1; simp only [leB, decide_eq_true_eq, List.length_append, List.length_cons, List.length_nil]; omega)) (StE.chk (by first | exact idx_ok (by omega) | exact idx_ok (by have hq := len_eq (by assumption); omega) | exact idx_found (show (0 : Int) ≤ (i0 : Int) by simp_all) | exact cut_ok (by omega) | exact or_ok (idx_ok (by omega)) | (refine or1 (fun hz => pre_ok (by simp at hz; omega) (by omega) (by omega))) | exact pre_ok (by omega) (by omega) (by omega) | (simp_all [idxOk, cutOk, leB]; done) | (simp_all [idxOk, cutOk, leB]; omega) | (simp [idxOk, cutOk, leB] at *; omega) | (simp_all [spec_l1In_v]; omega) | (have hf0 := h_x0.2.2.1.1; have hf1 := h_x0.2.2.2.1; simp only [leB, decide_eq_true_eq, List.length_append, List.length_cons, List.length_nil]; omega)) (StE.bind (spec_l3Among_ev (x0.fIns.take ((i0 : Int)).toNat) (gt x0.fIns (i0 : Int)) ((Lm_take h_x0.2.2.1))) (StE.ifh (fun hc1 => (StE.ret _)) (fun hc1 => StE.next)))))))))) (fun j hj => by
  simp only [spec_l3Fault.l0_s]
  exact Evt.f (ge_lt hj) (Evt.self _))) (fun _ => rfl) (Evt.bind (spec_l3Outs_ev x0 (h_x0) (by first | assumption | (simp_all; omega) | (simp_all [spec_l1In_v]; omega) | (have hf0 := h_x0.2.2.1.1; have hf1 := h_x0.2.2.2.1; simp only [leB, decide_eq_true_eq, List.length_append, List.length_cons, List.length_nil]; omega))) (Evt.self _)))))))))))))
def spec_l6At_v (x0 : List Member) (x1 : Int) : Int := (onO ((List.range' 0 (x0.length - 0)).findSome? (fun (i0 : Nat) => (bif (((gt x0 (i0 : Int)).fKey) == x1) then (some (i0 : Int)) else none))) (fun r => r) (-1))
theorem spec_l6At_ev (x0 : List Member) (x1 : Int) (h_x0 : (Lm smMember) x0) : Evt (fun k => spec_l6At.f k x0 x1) (spec_l6At_v x0 x1) :=
  (Evt.loop (r' := fun r => r) (Evt.srch (L := (fun k i => spec_l6At.l0 x0 x1 k i)) 0 x0.length (by have := h_x0; first | (have := this.1; omega) | omega) (fun (i0 : Nat) => (bif (((gt x0 (i0 : Int)).fKey) == x1) then (some (i0 : Int)) else none)) (fun i0 hs2 hi2 => by
  have hbn : x0.length ≤ 9223372036854775807 := (by have := h_x0; first | (have := this.1; omega) | omega)
  simp only [spec_l6At.l0_s]
  exact Evt_t2 (int_lt hi2) (StE.chk (by first | exact idx_ok (by omega) | exact idx_ok (by have hq := len_eq (by assumption); omega) | exact idx_found (show (0 : Int) ≤ (i0 : Int) by simp_all) | exact cut_ok (by omega) | exact or_ok (idx_ok (by omega)) | (refine or1 (fun hz => pre_ok (by simp at hz; omega) (by omega) (by omega))) | exact pre_ok (by omega) (by omega) (by omega) | (simp_all [idxOk, cutOk, leB]; done) | (simp_all [idxOk, cutOk, leB]; omega) | (simp [idxOk, cutOk, leB] at *; omega) | (have hf0 := h_x0.1; simp only [leB, decide_eq_true_eq, List.length_append, List.length_cons, List.length_nil]; omega)) (StE.ifh (fun hc1 => (StE.ret _)) (fun hc1 => StE.next)))) (fun j hj => by
  simp only [spec_l6At.l0_s]
  exact Evt.f (ge_lt hj) (Evt.self _))) (fun _ => rfl) (Evt.self _))
def jl (key : Int) : List Member → Nat → Nat → Nat
  | [], _, a => a
  | m :: r, i, a => jl key r (i + 1) (bif decide (m.fKey < key) then i + 1 else a)
theorem jl_le (key : Int) : ∀ (xs : List Member) (i a : Nat), a ≤ i → jl key xs i a ≤ i + xs.length
  | [], i, a, h => by unfold jl; simp; exact h
  | m :: r, i, a, h => by
    unfold jl
    have := jl_le key r (i + 1) (bif decide (m.fKey < key) then i + 1 else a) (by cases decide (m.fKey < key) <;> simp <;> omega)
    simp only [List.length_cons]; omega
def spec_l6Join_v (x0 : List Member) (x1 : Member) : (List Member) × Int :=
  bif decide (0 ≤ spec_l6At_v x0 x1.fKey) then ([], 7) else bif x0.any (fun m => (m.fRef.fTx == x1.fRef.fTx) && (m.fRef.fAt == x1.fRef.fAt)) then ([], 7) else bif decide (8 ≤ (x0.length : Int)) then ([], 2) else (x0.take (jl x1.fKey x0 0 0) ++ [x1] ++ x0.drop (jl x1.fKey x0 0 0), 0)
theorem l6Join_loop (x0 : List Member) (x1 : Member) (hl : x0.length ≤ 1048576) : ∀ (d j a : Nat), j + d = x0.length → Evt (fun k => spec_l6Join.l0 x0 x1 k (a : Int) (j : Int)) (bif (x0.drop j).any (fun m => (m.fRef.fTx == x1.fRef.fTx) && (m.fRef.fAt == x1.fRef.fAt)) then .inl (([] : List Member), 7) else .inr ((jl x1.fKey (x0.drop j) j a : Nat) : Int))
  | 0, j, a, h => by
    refine Evt.s ?_
    simp only [spec_l6Join.l0_s]
    rw [List.drop_of_length_le (by omega)]
    exact Evt.f (decide_eq_false (by omega)) (Evt.self _)
  | d + 1, j, a, h => by
    have hj : j < x0.length := by omega
    have e0 : x0.drop j = gt x0 (j : Int) :: x0.drop (j + 1) := by rw [gt_eq (by simpa using hj)]; exact List.drop_eq_getElem_cons hj
    have ew : wrap64 ((j : Int) + 1) = ((j + 1 : Nat) : Int) := by rw [wrap64_in _ (by omega)]; omega
    refine Evt.s ?_
    simp only [spec_l6Join.l0_s, ew]
    refine Evt.t (int_lt hj) (Evt.chk (idx_ok hj) ?_)
    rw [e0, List.any_cons]
    unfold jl
    cases hr : ((gt x0 (j : Int)).fRef.fTx == x1.fRef.fTx) && ((gt x0 (j : Int)).fRef.fAt == x1.fRef.fAt)
    · rw [Bool.false_or]
      refine Evt.f rfl (Evt.chk (idx_ok hj) ?_)
      cases hk : decide ((gt x0 (j : Int)).fKey < x1.fKey)
      · exact Evt.f rfl (l6Join_loop x0 x1 hl d (j + 1) a (by omega))
      · exact Evt.t rfl (l6Join_loop x0 x1 hl d (j + 1) (j + 1) (by omega))
    · exact Evt.t rfl (Evt.self _)
theorem spec_l6Join_ev (x0 : List Member) (x1 : Member) (h_x0 : Lm smMember x0) : Evt (fun k => spec_l6Join.f k x0 x1) (spec_l6Join_v x0 x1) := by
  have hl := h_x0.1
  refine Evt.bind (spec_l6At_ev x0 x1.fKey h_x0) ?_
  unfold spec_l6Join_v
  cases decide (0 ≤ spec_l6At_v x0 x1.fKey)
  · refine Evt.f rfl (Evt.bind (l6Join_loop x0 x1 hl x0.length 0 0 (by omega)) ?_)
    rw [List.drop_zero]
    cases x0.any (fun m => (m.fRef.fTx == x1.fRef.fTx) && (m.fRef.fAt == x1.fRef.fAt))
    · show Evt (fun k => bif decide (8 ≤ (x0.length : Int)) then _ else _) _
      cases h8 : decide (8 ≤ (x0.length : Int))
      · have h9 := of_decide_eq_false h8
        have hj := jl_le x1.fKey x0 0 0 (Nat.le_refl _)
        have hc : cutOk ((jl x1.fKey x0 0 0 : Nat) : Int) x0.length = true := cut_ok (by omega)
        refine Evt.f rfl (Evt.chk hc (Evt.chk (decide_eq_true ?_) (Evt.chk hc (Evt.chk (decide_eq_true ?_) (Evt.chk (decide_eq_true ?_) ?_)))))
        · simp; omega
        · simp; omega
        · simp; omega
        · simp only [Int.toNat_natCast, List.nil_append]
          exact Evt.self _
      · exact Evt.t rfl (Evt.self _)
    · exact Evt.self _
  · exact Evt.t rfl (Evt.self _)
def l6Keep (x1 : Tx) (m : Member) : Bool := (!((x1.fKind == 2) && (m.fKey == x1.fMember))) && !(spec_l3Among_v x1.fIns m.fRef)
theorem l6Take_loop (x0 : List Member) (x1 : Tx) (h0 : x0.length ≤ 1048576) (h1 : smTx x1) : ∀ (d j : Nat) (a : List Member), j + d = x0.length → a.length ≤ j → Evt (fun k => spec_l6Take.l0 x0 x1 k a (j : Int)) (a ++ (x0.drop j).filter (l6Keep x1))
  | 0, j, a, h, ha => by
    refine Evt.s ?_
    simp only [spec_l6Take.l0_s]
    rw [List.drop_of_length_le (by omega), List.filter_nil, List.append_nil]
    exact Evt.f (decide_eq_false (by omega)) (Evt.self _)
  | d + 1, j, a, h, ha => by
    have hj : j < x0.length := by omega
    have e0 : x0.drop j = gt x0 (j : Int) :: x0.drop (j + 1) := by rw [gt_eq (by simpa using hj)]; exact List.drop_eq_getElem_cons hj
    have ew : wrap64 ((j : Int) + 1) = ((j + 1 : Nat) : Int) := by rw [wrap64_in _ (by omega)]; omega
    refine Evt.s ?_
    simp only [spec_l6Take.l0_s, ew]
    refine Evt.t (int_lt hj) (Evt.chk (or1 fun _ => idx_ok hj) (Evt.chk (or1 fun _ => idx_ok hj) ?_))
    have ea := spec_l3Among_ev x1.fIns (gt x0 (j : Int)).fRef h1.2.2.1
    rw [e0]
    cases hg : (x1.fKind == 2) && ((gt x0 (j : Int)).fKey == x1.fMember)
    · cases hm : spec_l3Among_v x1.fIns (gt x0 (j : Int)).fRef
      · have hk : l6Keep x1 (gt x0 (j : Int)) = true := by unfold l6Keep; rw [hg, hm]; rfl
        rw [List.filter_cons_of_pos hk]
        rw [hm] at ea
        refine Evt.bind (Evt.t rfl ea) (Evt.t rfl (Evt.chk (idx_ok hj) (Evt.chk (decide_eq_true (by simp; omega)) ?_)))
        have := l6Take_loop x0 x1 h0 h1 d (j + 1) (a ++ [gt x0 (j : Int)]) (by omega) (by simp; omega)
        rw [List.append_assoc] at this
        exact this
      · have hk : ¬ l6Keep x1 (gt x0 (j : Int)) = true := by unfold l6Keep; rw [hg, hm]; exact Bool.false_ne_true
        rw [List.filter_cons_of_neg hk]
        rw [hm] at ea
        exact Evt.bind (Evt.t rfl ea) (Evt.f rfl (l6Take_loop x0 x1 h0 h1 d (j + 1) a (by omega) (by omega)))
    · have hk : ¬ l6Keep x1 (gt x0 (j : Int)) = true := by unfold l6Keep; rw [hg]; exact Bool.false_ne_true
      rw [List.filter_cons_of_neg hk]
      exact Evt.bind (Evt.f rfl (Evt.self _)) (Evt.f rfl (l6Take_loop x0 x1 h0 h1 d (j + 1) a (by omega) (by omega)))
def spec_l6Take_v (x0 : List Member) (x1 : Tx) (x2 : Int) : (List Member) × Int :=
  bif (x1.fKind == 2) && decide ((bif x1.fKind == 2 then spec_l6At_v x0 x1.fMember else default) < 0) then ([], 4) else bif x1.fKind != 1 then (x0.filter (l6Keep x1), 0) else spec_l6Join_v (x0.filter (l6Keep x1)) ⟨x1.fMember, ⟨x2, 0⟩⟩
theorem spec_l6Take_ev (x0 : List Member) (x1 : Tx) (x2 : Int) (h_x0 : Lm smMember x0) (h_x1 : smTx x1) : Evt (fun k => spec_l6Take.f k x0 x1 x2) (spec_l6Take_v x0 x1 x2) := by
  refine Evt.bind (Evt.ifh (fun _ => spec_l6At_ev x0 x1.fMember h_x0) (fun _ => Evt.self _)) ?_
  unfold spec_l6Take_v
  cases (x1.fKind == 2) && decide ((bif x1.fKind == 2 then spec_l6At_v x0 x1.fMember else default) < 0)
  · have e := l6Take_loop x0 x1 h_x0.1 h_x1 x0.length 0 [] (by omega) (by simp)
    rw [List.drop_zero, List.nil_append] at e
    refine Evt.f rfl (Evt.bind e ?_)
    cases x1.fKind != 1
    · exact Evt.f rfl (Evt.bind (spec_l6Join_ev _ _ (Lm_sub h_x0 List.filter_sublist)) (Evt.self _))
    · exact Evt.t rfl (Evt.self _)
  · exact Evt.t rfl (Evt.self _)
def spec_TakeMembers_v (x0 : List Member) (x1 : Tx) (x2 : Int) : MembersResult := (bif ((spec_l6Fault_v x0) != 0) then (⟨(spec_l6Fault_v x0), ([] : List Member)⟩ : MembersResult) else (bif ((spec_l3Fault_v x1) != 0) then (⟨(spec_l3Fault_v x1), ([] : List Member)⟩ : MembersResult) else (bif !(spec_l1In_v x2 1 60) then (⟨3, ([] : List Member)⟩ : MembersResult) else (bif ((spec_l6Take_v x0 x1 x2).2 != 0) then (⟨(spec_l6Take_v x0 x1 x2).2, ([] : List Member)⟩ : MembersResult) else (⟨0, (spec_l6Take_v x0 x1 x2).1⟩ : MembersResult)))))
theorem spec_TakeMembers_ev (x0 : List Member) (x1 : Tx) (x2 : Int) (h_x0 : (Lm smMember) x0) (h_x1 : smTx x1) : Evt (fun k => spec_TakeMembers.f k x0 x1 x2) (spec_TakeMembers_v x0 x1 x2) :=
  (Evt.bind (spec_l6Fault_ev x0 (h_x0)) (Evt.ifh (fun hc3 => (Evt.self _)) (fun hc3 => (Evt.bind (spec_l3Fault_ev x1 (h_x1)) (Evt.ifh (fun hc2 => (Evt.self _)) (fun hc2 => (Evt.bind (spec_l1In_ev x2 1 60) (Evt.ifh (fun hc1 => (Evt.self _)) (fun hc1 => (Evt.bind (spec_l6Take_ev x0 x1 x2 (h_x0) (h_x1)) (Evt.ifh (fun hc0 => (Evt.self _)) (fun hc0 => (Evt.self _)))))))))))))
def impl_within_v (x0 : Int) (x1 : Int) (x2 : Int) : Bool := ((decide (x1 ≤ x0)) && (decide (x0 ≤ x2)))
theorem impl_within_ev (x0 : Int) (x1 : Int) (x2 : Int)  : Evt (fun k => impl_within.f k x0 x1 x2) (impl_within_v x0 x1 x2) :=
  (Evt.self _)
def impl_isKey_v (x0 : Int) : Bool := (impl_within_v x0 1 999)
theorem impl_isKey_ev (x0 : Int)  : Evt (fun k => impl_isKey.f k x0) (impl_isKey_v x0) :=
  (Evt.bind (impl_within_ev x0 1 999) (Evt.self _))
def impl_isId_v (x0 : Int) : Bool := (impl_within_v x0 1 60)
theorem impl_isId_ev (x0 : Int)  : Evt (fun k => impl_isId.f k x0) (impl_isId_v x0) :=
  (Evt.bind (impl_within_ev x0 1 60) (Evt.self _))
def impl_isRef_v (x0 : Ref) : Bool := ((impl_isId_v x0.fTx) && (bif (impl_isId_v x0.fTx) then (impl_within_v x0.fAt 0 3) else default))
theorem impl_isRef_ev (x0 : Ref)  : Evt (fun k => impl_isRef.f k x0) (impl_isRef_v x0) :=
  (Evt.bind (impl_isId_ev x0.fTx) (Evt.bind (Evt.ifh (fun _ => (impl_within_ev x0.fAt 0 3)) (fun _ => Evt.self _)) (Evt.self _)))
def impl_MembersFault_1_v (x0 : Member) (x1 : Member) : Bool := ((x0.fRef.fTx == x1.fRef.fTx) && (x0.fRef.fAt == x1.fRef.fAt))
theorem impl_MembersFault_1_ev (x0 : Member) (x1 : Member)  : Evt (fun k => impl_MembersFault_1.f k x0 x1) (impl_MembersFault_1_v x0 x1) :=
  (Evt.self _)
def slices_IndexFunc_impl_Member_v (x0 : List Member) (x1_0 : Member) : Int := (onO ((List.range' 0 (x0.length - 0)).findSome? (fun (i0 : Nat) => (bif (impl_MembersFault_1_v (gt x0 (i0 : Int)) x1_0) then (some (i0 : Int)) else none))) (fun r => r) (-1))
theorem slices_IndexFunc_impl_Member_ev (x0 : List Member) (x1_0 : Member) (h_x0 : (Lm smMember) x0) : Evt (fun k => slices_IndexFunc_impl_Member.f k x0 x1_0) (slices_IndexFunc_impl_Member_v x0 x1_0) :=
  (Evt.loop (r' := fun r => r) (Evt.srch (L := (fun k i => slices_IndexFunc_impl_Member.l0 x0 x1_0 k i)) 0 x0.length (by have := h_x0; first | (have := this.1; omega) | omega) (fun (i0 : Nat) => (bif (impl_MembersFault_1_v (gt x0 (i0 : Int)) x1_0) then (some (i0 : Int)) else none)) (fun i0 hs2 hi2 => by
  have hbn : x0.length ≤ 9223372036854775807 := (by have := h_x0; first | (have := this.1; omega) | omega)
  simp only [slices_IndexFunc_impl_Member.l0_s]
  exact Evt_t2 (int_lt hi2) (StE.chk (by first | exact idx_ok (by omega) | exact idx_ok (by have hq := len_eq (by assumption); omega) | exact idx_found (show (0 : Int) ≤ (i0 : Int) by simp_all) | exact cut_ok (by omega) | exact or_ok (idx_ok (by omega)) | (refine or1 (fun hz => pre_ok (by simp at hz; omega) (by omega) (by omega))) | exact pre_ok (by omega) (by omega) (by omega) | (simp_all [idxOk, cutOk, leB]; done) | (simp_all [idxOk, cutOk, leB]; omega) | (simp [idxOk, cutOk, leB] at *; omega) | (have hf0 := h_x0.1; simp only [leB, decide_eq_true_eq, List.length_append, List.length_cons, List.length_nil]; omega)) (StE.bind (impl_MembersFault_1_ev (gt x0 (i0 : Int)) x1_0) (StE.ifh (fun hc1 => (StE.ret _)) (fun hc1 => StE.next))))) (fun j hj => by
  simp only [slices_IndexFunc_impl_Member.l0_s]
  exact Evt.f (ge_lt hj) (Evt.self _))) (fun _ => rfl) (Evt.self _))
def slices_ContainsFunc_impl_Member_v (x0 : List Member) (x1_0 : Member) : Bool := (decide (0 ≤ (slices_IndexFunc_impl_Member_v x0 x1_0)))
theorem slices_ContainsFunc_impl_Member_ev (x0 : List Member) (x1_0 : Member) (h_x0 : (Lm smMember) x0) : Evt (fun k => slices_ContainsFunc_impl_Member.f k x0 x1_0) (slices_ContainsFunc_impl_Member_v x0 x1_0) :=
  (Evt.bind (slices_IndexFunc_impl_Member_ev x0 x1_0 (h_x0)) (Evt.self _))
theorem slices_ContainsFunc_impl_Member_any (x0 : List Member) (x1_0 : Member) : slices_ContainsFunc_impl_Member_v x0 x1_0 = (List.range' 0 (x0.length - 0)).any (fun (i0 : Nat) => (impl_MembersFault_1_v (gt x0 (i0 : Int)) x1_0)) := idx_any _ _
def impl_MembersFault_v (x0 : List Member) : Int := (bif (decide (8 < (x0.length : Int))) then 2 else (onO ((List.range' 0 (x0.length - 0)).findSome? (fun (i0 : Nat) => (bif ((!(impl_isKey_v ((gt x0 (i0 : Int)).fKey))) || (!(bif (!(!(impl_isKey_v ((gt x0 (i0 : Int)).fKey)))) then (impl_isRef_v ((gt x0 (i0 : Int)).fRef)) else default))) then (some 3) else (bif ((decide (0 < (i0 : Int))) && (decide (((gt x0 (i0 : Int)).fKey) ≤ ((gt x0 (wrap64 ((i0 : Int) - 1))).fKey)))) then (some 1) else none)))) (fun r => r) (onO ((List.range' 0 (x0.length - 0)).findSome? (fun (i3 : Nat) => (bif (slices_ContainsFunc_impl_Member_v (x0.take ((i3 : Int)).toNat) (gt x0 (i3 : Int))) then (some 7) else none))) (fun r => r) 0)))
theorem impl_MembersFault_ev (x0 : List Member) (h_x0 : (Lm smMember) x0) : Evt (fun k => impl_MembersFault.f k x0) (impl_MembersFault_v x0) :=
  (Evt.ifh (fun hc5 => (Evt.self _)) (fun hc5 => (Evt.loop (r' := fun r => r) (Evt.srch (L := (fun k i => impl_MembersFault.l0 x0 k i)) 0 x0.length (by have := h_x0; first | (have := this.1; omega) | omega) (fun (i0 : Nat) => (bif ((!(impl_isKey_v ((gt x0 (i0 : Int)).fKey))) || (!(bif (!(!(impl_isKey_v ((gt x0 (i0 : Int)).fKey)))) then (impl_isRef_v ((gt x0 (i0 : Int)).fRef)) else default))) then (some 3) else (bif ((decide (0 < (i0 : Int))) && (decide (((gt x0 (i0 : Int)).fKey) ≤ ((gt x0 (wrap64 ((i0 : Int) - 1))).fKey)))) then (some 1) else none))) (fun i0 hs3 hi3 => by
  have hbn : x0.length ≤ 9223372036854775807 := (by have := h_x0; first | (have := this.1; omega) | omega)
  simp only [impl_MembersFault.l0_s]
  exact Evt_t2 (int_lt hi3) (StE.chk (by first | exact idx_ok (by omega) | exact idx_ok (by have hq := len_eq (by assumption); omega) | exact idx_found (show (0 : Int) ≤ (i0 : Int) by simp_all) | exact cut_ok (by omega) | exact or_ok (idx_ok (by omega)) | (refine or1 (fun hz => pre_ok (by simp at hz; omega) (by omega) (by omega))) | exact pre_ok (by omega) (by omega) (by omega) | (simp_all [idxOk, cutOk, leB]; done) | (simp_all [idxOk, cutOk, leB]; omega) | (simp [idxOk, cutOk, leB] at *; omega) | (have hf0 := h_x0.1; simp only [leB, decide_eq_true_eq, List.length_append, List.length_cons, List.length_nil]; omega)) (StE.bind (impl_isKey_ev ((gt x0 (i0 : Int)).fKey)) (StE.bind (Evt.ifh (fun _ => (impl_isRef_ev ((gt x0 (i0 : Int)).fRef))) (fun _ => Evt.self _)) (StE.ifh (fun hc2 => (StE.ret _)) (fun hc2 => (StE.chk (by first | exact idx_ok (by omega) | exact idx_ok (by have hq := len_eq (by assumption); omega) | exact idx_found (by simp_all) | exact cut_ok (by omega) | exact or_ok (idx_ok (by omega)) | (refine or1 (fun hz => pre_ok (by simp at hz; omega) (by omega) (by omega))) | exact pre_ok (by omega) (by omega) (by omega) | (simp_all [idxOk, cutOk, leB]; done) | (simp_all [idxOk, cutOk, leB]; omega) | (simp [idxOk, cutOk, leB] at *; omega) | (have hf0 := h_x0.1; simp only [leB, decide_eq_true_eq, List.length_append, List.length_cons, List.length_nil]; omega)) (StE.ifh (fun hc1 => (StE.ret _)) (fun hc1 => StE.next))))))))) (fun j hj => by
  simp only [impl_MembersFault.l0_s]
  exact Evt.f (ge_lt hj) (Evt.self _))) (fun _ => rfl) (Evt.loop (r' := fun r => r) (Evt.srch (L := (fun k i => impl_MembersFault.l1 x0 k i)) 0 x0.length (by have := h_x0; first | (have := this.1; omega) | omega) (fun (i3 : Nat) => (bif (slices_ContainsFunc_impl_Member_v (x0.take ((i3 : Int)).toNat) (gt x0 (i3 : Int))) then (some 7) else none)) (fun i3 hs5 hi5 => by
  have hbn : x0.length ≤ 9223372036854775807 := (by have := h_x0; first | (have := this.1; omega) | omega)
  simp only [impl_MembersFault.l1_s]
  exact Evt_t2 (int_lt hi5) (StE.chk (by first | exact idx_ok (by omega) | exact idx_ok (by have hq := len_eq (by assumption); omega) | exact idx_found (show (0 : Int) ≤ (i3 : Int) by simp_all) | exact cut_ok (by omega) | exact or_ok (idx_ok (by omega)) | (refine or1 (fun hz => pre_ok (by simp at hz; omega) (by omega) (by omega))) | exact pre_ok (by omega) (by omega) (by omega) | (simp_all [idxOk, cutOk, leB]; done) | (simp_all [idxOk, cutOk, leB]; omega) | (simp [idxOk, cutOk, leB] at *; omega) | (have hf0 := h_x0.1; simp only [leB, decide_eq_true_eq, List.length_append, List.length_cons, List.length_nil]; omega)) (StE.chk (by first | exact idx_ok (by omega) | exact idx_ok (by have hq := len_eq (by assumption); omega) | exact idx_found (by simp_all) | exact cut_ok (by omega) | exact or_ok (idx_ok (by omega)) | (refine or1 (fun hz => pre_ok (by simp at hz; omega) (by omega) (by omega))) | exact pre_ok (by omega) (by omega) (by omega) | (simp_all [idxOk, cutOk, leB]; done) | (simp_all [idxOk, cutOk, leB]; omega) | (simp [idxOk, cutOk, leB] at *; omega) | (have hf0 := h_x0.1; simp only [leB, decide_eq_true_eq, List.length_append, List.length_cons, List.length_nil]; omega)) (StE.bind (slices_ContainsFunc_impl_Member_ev (x0.take ((i3 : Int)).toNat) (gt x0 (i3 : Int)) ((Lm_take h_x0))) (StE.ifh (fun hc4 => (StE.ret _)) (fun hc4 => StE.next)))))) (fun j hj => by
  simp only [impl_MembersFault.l1_s]
  exact Evt.f (ge_lt hj) (Evt.self _))) (fun _ => rfl) (Evt.self _)))))
def impl_TxFault_1_v (x0 : Int) : Bool := ((decide (x0 < 1)) || (decide (4 < x0)))
theorem impl_TxFault_1_ev (x0 : Int)  : Evt (fun k => impl_TxFault_1.f k x0) (impl_TxFault_1_v x0) :=
  (Evt.self _)
def slices_Index_impl_Ref_v (x0 : List Ref) (x1 : Ref) : Int := (onO ((List.range' 0 (x0.length - 0)).findSome? (fun (i0 : Nat) => (bif ((x1.fTx == ((gt x0 (i0 : Int)).fTx)) && (x1.fAt == ((gt x0 (i0 : Int)).fAt))) then (some (i0 : Int)) else none))) (fun r => r) (-1))
theorem slices_Index_impl_Ref_ev (x0 : List Ref) (x1 : Ref) (h_x0 : (Lm smRef) x0) : Evt (fun k => slices_Index_impl_Ref.f k x0 x1) (slices_Index_impl_Ref_v x0 x1) :=
  (Evt.loop (r' := fun r => r) (Evt.srch (L := (fun k i => slices_Index_impl_Ref.l0 x0 x1 k i)) 0 x0.length (by have := h_x0; first | (have := this.1; omega) | omega) (fun (i0 : Nat) => (bif ((x1.fTx == ((gt x0 (i0 : Int)).fTx)) && (x1.fAt == ((gt x0 (i0 : Int)).fAt))) then (some (i0 : Int)) else none)) (fun i0 hs2 hi2 => by
  have hbn : x0.length ≤ 9223372036854775807 := (by have := h_x0; first | (have := this.1; omega) | omega)
  simp only [slices_Index_impl_Ref.l0_s]
  exact Evt_t2 (int_lt hi2) (StE.chk (by first | exact idx_ok (by omega) | exact idx_ok (by have hq := len_eq (by assumption); omega) | exact idx_found (show (0 : Int) ≤ (i0 : Int) by simp_all) | exact cut_ok (by omega) | exact or_ok (idx_ok (by omega)) | (refine or1 (fun hz => pre_ok (by simp at hz; omega) (by omega) (by omega))) | exact pre_ok (by omega) (by omega) (by omega) | (simp_all [idxOk, cutOk, leB]; done) | (simp_all [idxOk, cutOk, leB]; omega) | (simp [idxOk, cutOk, leB] at *; omega) | (have hf0 := h_x0.1; simp only [leB, decide_eq_true_eq, List.length_append, List.length_cons, List.length_nil]; omega)) (StE.ifh (fun hc1 => (StE.ret _)) (fun hc1 => StE.next)))) (fun j hj => by
  simp only [slices_Index_impl_Ref.l0_s]
  exact Evt.f (ge_lt hj) (Evt.self _))) (fun _ => rfl) (Evt.self _))
def slices_Contains_impl_Ref_v (x0 : List Ref) (x1 : Ref) : Bool := (decide (0 ≤ (slices_Index_impl_Ref_v x0 x1)))
theorem slices_Contains_impl_Ref_ev (x0 : List Ref) (x1 : Ref) (h_x0 : (Lm smRef) x0) : Evt (fun k => slices_Contains_impl_Ref.f k x0 x1) (slices_Contains_impl_Ref_v x0 x1) :=
  (Evt.bind (slices_Index_impl_Ref_ev x0 x1 (h_x0)) (Evt.self _))
theorem slices_Contains_impl_Ref_any (x0 : List Ref) (x1 : Ref) : slices_Contains_impl_Ref_v x0 x1 = (List.range' 0 (x0.length - 0)).any (fun (i0 : Nat) => ((x1.fTx == ((gt x0 (i0 : Int)).fTx)) && (x1.fAt == ((gt x0 (i0 : Int)).fAt)))) := idx_any _ _
def impl_areKeys_1_v (x0 : Int) : Bool := (!(impl_isKey_v x0))
theorem impl_areKeys_1_ev (x0 : Int)  : Evt (fun k => impl_areKeys_1.f k x0) (impl_areKeys_1_v x0) :=
  (Evt.bind (impl_isKey_ev x0) (Evt.self _))
def slices_IndexFunc_int64_v (x0 : List Int) : Int := (onO ((List.range' 0 (x0.length - 0)).findSome? (fun (i0 : Nat) => (bif (impl_areKeys_1_v (gt x0 (i0 : Int))) then (some (i0 : Int)) else none))) (fun r => r) (-1))
theorem slices_IndexFunc_int64_ev (x0 : List Int) (h_x0 : (Lm tr) x0) : Evt (fun k => slices_IndexFunc_int64.f k x0) (slices_IndexFunc_int64_v x0) :=
  (Evt.loop (r' := fun r => r) (Evt.srch (L := (fun k i => slices_IndexFunc_int64.l0 x0 k i)) 0 x0.length (by have := h_x0; first | (have := this.1; omega) | omega) (fun (i0 : Nat) => (bif (impl_areKeys_1_v (gt x0 (i0 : Int))) then (some (i0 : Int)) else none)) (fun i0 hs2 hi2 => by
  have hbn : x0.length ≤ 9223372036854775807 := (by have := h_x0; first | (have := this.1; omega) | omega)
  simp only [slices_IndexFunc_int64.l0_s]
  exact Evt_t2 (int_lt hi2) (StE.chk (by first | exact idx_ok (by omega) | exact idx_ok (by have hq := len_eq (by assumption); omega) | exact idx_found (show (0 : Int) ≤ (i0 : Int) by simp_all) | exact cut_ok (by omega) | exact or_ok (idx_ok (by omega)) | (refine or1 (fun hz => pre_ok (by simp at hz; omega) (by omega) (by omega))) | exact pre_ok (by omega) (by omega) (by omega) | (simp_all [idxOk, cutOk, leB]; done) | (simp_all [idxOk, cutOk, leB]; omega) | (simp [idxOk, cutOk, leB] at *; omega) | (have hf0 := h_x0.1; simp only [leB, decide_eq_true_eq, List.length_append, List.length_cons, List.length_nil]; omega)) (StE.bind (impl_areKeys_1_ev (gt x0 (i0 : Int))) (StE.ifh (fun hc1 => (StE.ret _)) (fun hc1 => StE.next))))) (fun j hj => by
  simp only [slices_IndexFunc_int64.l0_s]
  exact Evt.f (ge_lt hj) (Evt.self _))) (fun _ => rfl) (Evt.self _))
def slices_ContainsFunc_int64_v (x0 : List Int) : Bool := (decide (0 ≤ (slices_IndexFunc_int64_v x0)))
theorem slices_ContainsFunc_int64_ev (x0 : List Int) (h_x0 : (Lm tr) x0) : Evt (fun k => slices_ContainsFunc_int64.f k x0) (slices_ContainsFunc_int64_v x0) :=
  (Evt.bind (slices_IndexFunc_int64_ev x0 (h_x0)) (Evt.self _))
theorem slices_ContainsFunc_int64_any (x0 : List Int) : slices_ContainsFunc_int64_v x0 = (List.range' 0 (x0.length - 0)).any (fun (i0 : Nat) => (impl_areKeys_1_v (gt x0 (i0 : Int)))) := idx_any _ _
def impl_areKeys_v (x0 : List Int) : Bool := (!(slices_ContainsFunc_int64_v x0))
theorem impl_areKeys_ev (x0 : List Int) (h_x0 : (Lm tr) x0) : Evt (fun k => impl_areKeys.f k x0) (impl_areKeys_v x0) :=
  (Evt.bind (slices_ContainsFunc_int64_ev x0 (h_x0)) (Evt.self _))
def impl_isHeight_v (x0 : Int) : Bool := (impl_within_v x0 0 999)
theorem impl_isHeight_ev (x0 : Int)  : Evt (fun k => impl_isHeight.f k x0) (impl_isHeight_v x0) :=
  (Evt.bind (impl_within_ev x0 0 999) (Evt.self _))
def impl_isRising_v (x0 : List Int) : Bool := (onO ((List.range' 1 (x0.length - 1)).findSome? (fun (i0 : Nat) => (bif (decide ((gt x0 (i0 : Int)) ≤ (gt x0 (wrap64 ((i0 : Int) - 1))))) then (some false) else none))) (fun r => r) true)
theorem impl_isRising_ev (x0 : List Int) (h_x0 : (Lm tr) x0) : Evt (fun k => impl_isRising.f k x0) (impl_isRising_v x0) :=
  (Evt.loop (r' := fun r => r) (Evt.srch (L := (fun k i => impl_isRising.l0 x0 k i)) 1 x0.length (by have := h_x0; first | (have := this.1; omega) | omega) (fun (i0 : Nat) => (bif (decide ((gt x0 (i0 : Int)) ≤ (gt x0 (wrap64 ((i0 : Int) - 1))))) then (some false) else none)) (fun i0 hs2 hi2 => by
  have hbn : x0.length ≤ 9223372036854775807 := (by have := h_x0; first | (have := this.1; omega) | omega)
  simp only [impl_isRising.l0_s]
  exact Evt_t2 (int_lt hi2) (StE.chk (by first | exact idx_ok (by omega) | exact idx_ok (by have hq := len_eq (by assumption); omega) | exact idx_found (show (0 : Int) ≤ (i0 : Int) by simp_all) | exact cut_ok (by omega) | exact or_ok (idx_ok (by omega)) | (refine or1 (fun hz => pre_ok (by simp at hz; omega) (by omega) (by omega))) | exact pre_ok (by omega) (by omega) (by omega) | (simp_all [idxOk, cutOk, leB]; done) | (simp_all [idxOk, cutOk, leB]; omega) | (simp [idxOk, cutOk, leB] at *; omega) | (have hf0 := h_x0.1; simp only [leB, decide_eq_true_eq, List.length_append, List.length_cons, List.length_nil]; omega)) (StE.chk (by first | exact idx_ok (by omega) | exact idx_ok (by have hq := len_eq (by assumption); omega) | exact idx_found (show (0 : Int) ≤ (wrap64 ((i0 : Int) - 1)) by simp_all) | exact cut_ok (by omega) | exact or_ok (idx_ok (by omega)) | (refine or1 (fun hz => pre_ok (by simp at hz; omega) (by omega) (by omega))) | exact pre_ok (by omega) (by omega) (by omega) | (simp_all [idxOk, cutOk, leB]; done) | (simp_all [idxOk, cutOk, leB]; omega) | (simp [idxOk, cutOk, leB] at *; omega) | (have hf0 := h_x0.1; simp only [leB, decide_eq_true_eq, List.length_append, List.length_cons, List.length_nil]; omega)) (StE.ifh (fun hc1 => (StE.ret _)) (fun hc1 => StE.next))))) (fun j hj => by
  simp only [impl_isRising.l0_s]
  exact Evt.f (ge_lt hj) (Evt.self _))) (fun _ => rfl) (Evt.self _))
def impl_RuleFault_v (x0 : Rule) : Int := (bif !(impl_within_v (x0.fKeys.length : Int) 1 3) then 2 else (bif (((!(impl_areKeys_v x0.fKeys)) || (!(bif (!(!(impl_areKeys_v x0.fKeys))) then (impl_within_v x0.fNeed 1 (x0.fKeys.length : Int)) else default))) || (!(bif (!((!(impl_areKeys_v x0.fKeys)) || (!(bif (!(!(impl_areKeys_v x0.fKeys))) then (impl_within_v x0.fNeed 1 (x0.fKeys.length : Int)) else default)))) then (impl_isHeight_v x0.fAfter) else default))) then 3 else (bif !(impl_isRising_v x0.fKeys) then 1 else 0)))
theorem impl_RuleFault_ev (x0 : Rule) (h_x0 : smRule x0) : Evt (fun k => impl_RuleFault.f k x0) (impl_RuleFault_v x0) :=
  (Evt.bind (impl_within_ev (x0.fKeys.length : Int) 1 3) (Evt.ifh (fun hc2 => (Evt.self _)) (fun hc2 => (Evt.bind (impl_areKeys_ev x0.fKeys (h_x0.1)) (Evt.bind (Evt.ifh (fun _ => (impl_within_ev x0.fNeed 1 (x0.fKeys.length : Int))) (fun _ => Evt.self _)) (Evt.bind (Evt.ifh (fun _ => (impl_isHeight_ev x0.fAfter)) (fun _ => Evt.self _)) (Evt.ifh (fun hc1 => (Evt.self _)) (fun hc1 => (Evt.bind (impl_isRising_ev x0.fKeys (h_x0.1)) (Evt.ifh (fun hc0 => (Evt.self _)) (fun hc0 => (Evt.self _))))))))))))
theorem ruleFault_same (x0 : Rule) : impl_RuleFault_v x0 = spec_l2Fault_v x0 := by
  simp only [impl_RuleFault_v, spec_l2Fault_v, impl_areKeys_v, slices_ContainsFunc_int64_any, impl_areKeys_1_v, impl_isKey_v, spec_l1Key_v, impl_within_v, spec_l1In_v, impl_isHeight_v, spec_l2Height_v, impl_isRising_v, found_any]
  generalize (List.range' 0 (x0.fKeys.length - 0)).any _ = a
  generalize (List.range' 1 (x0.fKeys.length - 1)).any _ = b
  generalize (decide (1 ≤ x0.fNeed) && decide (x0.fNeed ≤ (x0.fKeys.length : Int))) = c
  generalize (decide (0 ≤ x0.fAfter) && decide (x0.fAfter ≤ 999)) = d
  generalize (decide (1 ≤ (x0.fKeys.length : Int)) && decide ((x0.fKeys.length : Int) ≤ 3)) = e
  cases a <;> cases b <;> cases c <;> cases d <;> cases e <;> rfl
def impl_outFault_v (x0 : Out) : Int := (bif !(impl_within_v x0.fValue 1 1000000) then 3 else (impl_RuleFault_v x0.fRule))
theorem impl_outFault_ev (x0 : Out) (h_x0 : smOut x0) : Evt (fun k => impl_outFault.f k x0) (impl_outFault_v x0) :=
  (Evt.bind (impl_within_ev x0.fValue 1 1000000) (Evt.ifh (fun hc0 => (Evt.self _)) (fun hc0 => (Evt.bind (impl_RuleFault_ev x0.fRule (h_x0.2)) (Evt.self _)))))
def impl_TxFault_v (x0 : Tx) : Int := (bif ((!(impl_within_v x0.fKind 0 2)) || ((x0.fKind == 0) != (x0.fMember == 0))) then 1 else (bif ((x0.fMember != 0) && (!(bif (x0.fMember != 0) then (impl_isKey_v x0.fMember) else default))) then 3 else (bif ((impl_TxFault_1_v (x0.fIns.length : Int)) || (bif (!(impl_TxFault_1_v (x0.fIns.length : Int))) then (impl_TxFault_1_v (x0.fOuts.length : Int)) else default)) then 2 else (onO ((List.range' 0 (x0.fIns.length - 0)).findSome? (fun (i0 : Nat) => (bif !(impl_isRef_v (gt x0.fIns (i0 : Int))) then (some 3) else (bif (slices_Contains_impl_Ref_v (x0.fIns.take ((i0 : Int)).toNat) (gt x0.fIns (i0 : Int))) then (some 7) else none)))) (fun r => r) (onO ((List.range' 0 (x0.fOuts.length - 0)).findSome? (fun (i3 : Nat) => (bif ((impl_outFault_v (gt x0.fOuts (i3 : Int))) != 0) then (some (impl_outFault_v (gt x0.fOuts (i3 : Int)))) else none))) (fun r => r) (bif ((x0.fKind == 1) && (decide (((gt x0.fOuts (0 : Int)).fValue) < 100))) then 8 else 0))))))
theorem impl_TxFault_ev (x0 : Tx) (h_x0 : smTx x0) : Evt (fun k => impl_TxFault.f k x0) (impl_TxFault_v x0) :=
  (Evt.bind (impl_within_ev x0.fKind 0 2) (Evt.ifh (fun hc8 => (Evt.self _)) (fun hc8 => (Evt.bind (Evt.ifh (fun _ => (impl_isKey_ev x0.fMember)) (fun _ => Evt.self _)) (Evt.ifh (fun hc7 => (Evt.self _)) (fun hc7 => (Evt.bind (impl_TxFault_1_ev (x0.fIns.length : Int)) (Evt.bind (Evt.ifh (fun _ => (impl_TxFault_1_ev (x0.fOuts.length : Int))) (fun _ => Evt.self _)) (Evt.ifh (fun hc6 => (Evt.self _)) (fun hc6 => (Evt.loop (r' := fun r => r) (Evt.srch (L := (fun k i => impl_TxFault.l0 x0 k i)) 0 x0.fIns.length (by have := h_x0.2.2.1; first | (have := this.1; omega) | omega) (fun (i0 : Nat) => (bif !(impl_isRef_v (gt x0.fIns (i0 : Int))) then (some 3) else (bif (slices_Contains_impl_Ref_v (x0.fIns.take ((i0 : Int)).toNat) (gt x0.fIns (i0 : Int))) then (some 7) else none))) (fun i0 hs3 hi3 => by
  have hbn : x0.fIns.length ≤ 9223372036854775807 := (by have := h_x0.2.2.1; first | (have := this.1; omega) | omega)
  simp only [impl_TxFault.l0_s]
  exact Evt_t2 (int_lt hi3) (StE.chk (by first | exact idx_ok (by omega) | exact idx_ok (by have hq := len_eq (by assumption); omega) | exact idx_found (show (0 : Int) ≤ (i0 : Int) by simp_all) | exact cut_ok (by omega) | exact or_ok (idx_ok (by omega)) | (refine or1 (fun hz => pre_ok (by simp at hz; omega) (by omega) (by omega))) | exact pre_ok (by omega) (by omega) (by omega) | (simp_all [idxOk, cutOk, leB]; done) | (simp_all [idxOk, cutOk, leB]; omega) | (simp [idxOk, cutOk, leB] at *; omega) | (simp_all [idxOk, impl_TxFault_1_v]; omega) | (have hf0 := h_x0.2.2.1.1; have hf1 := h_x0.2.2.2.1; simp only [leB, decide_eq_true_eq, List.length_append, List.length_cons, List.length_nil]; omega)) (StE.bind (impl_isRef_ev (gt x0.fIns (i0 : Int))) (StE.ifh (fun hc2 => (StE.ret _)) (fun hc2 => (StE.chk (by first | exact idx_ok (by omega) | exact idx_ok (by have hq := len_eq (by assumption); omega) | exact idx_found (by simp_all) | exact cut_ok (by omega) | exact or_ok (idx_ok (by omega)) | (refine or1 (fun hz => pre_ok (by simp at hz; omega) (by omega) (by omega))) | exact pre_ok (by omega) (by omega) (by omega) | (simp_all [idxOk, cutOk, leB]; done) | (simp_all [idxOk, cutOk, leB]; omega) | (simp [idxOk, cutOk, leB] at *; omega) | (simp_all [idxOk, impl_TxFault_1_v]; omega) | (have hf0 := h_x0.2.2.1.1; have hf1 := h_x0.2.2.2.1; simp only [leB, decide_eq_true_eq, List.length_append, List.length_cons, List.length_nil]; omega)) (StE.bind (slices_Contains_impl_Ref_ev (x0.fIns.take ((i0 : Int)).toNat) (gt x0.fIns (i0 : Int)) ((Lm_take h_x0.2.2.1))) (StE.ifh (fun hc1 => (StE.ret _)) (fun hc1 => StE.next))))))))) (fun j hj => by
  simp only [impl_TxFault.l0_s]
  exact Evt.f (ge_lt hj) (Evt.self _))) (fun _ => rfl) (Evt.loop (r' := fun r => r) (Evt.srch (L := (fun k i => impl_TxFault.l1 x0 k i)) 0 x0.fOuts.length (by have := h_x0.2.2.2; first | (have := this.1; omega) | omega) (fun (i3 : Nat) => (bif ((impl_outFault_v (gt x0.fOuts (i3 : Int))) != 0) then (some (impl_outFault_v (gt x0.fOuts (i3 : Int)))) else none)) (fun i3 hs5 hi5 => by
  have hbn : x0.fOuts.length ≤ 9223372036854775807 := (by have := h_x0.2.2.2; first | (have := this.1; omega) | omega)
  simp only [impl_TxFault.l1_s]
  exact Evt_t2 (int_lt hi5) (StE.chk (by first | exact idx_ok (by omega) | exact idx_ok (by have hq := len_eq (by assumption); omega) | exact idx_found (show (0 : Int) ≤ (i3 : Int) by simp_all) | exact cut_ok (by omega) | exact or_ok (idx_ok (by omega)) | (refine or1 (fun hz => pre_ok (by simp at hz; omega) (by omega) (by omega))) | exact pre_ok (by omega) (by omega) (by omega) | (simp_all [idxOk, cutOk, leB]; done) | (simp_all [idxOk, cutOk, leB]; omega) | (simp [idxOk, cutOk, leB] at *; omega) | (simp_all [idxOk, impl_TxFault_1_v]; omega) | (have hf0 := h_x0.2.2.1.1; have hf1 := h_x0.2.2.2.1; simp only [leB, decide_eq_true_eq, List.length_append, List.length_cons, List.length_nil]; omega)) (StE.bind (impl_outFault_ev (gt x0.fOuts (i3 : Int)) ((h_x0.2.2.2).2 _ (gt_mem (by first | omega | (have hq := len_eq (by assumption); omega) | (simp_all [idxOk, impl_TxFault_1_v]; omega) | (have hf0 := h_x0.2.2.1.1; have hf1 := h_x0.2.2.2.1; simp only [leB, decide_eq_true_eq, List.length_append, List.length_cons, List.length_nil]; omega))))) (StE.ifh (fun hc4 => (StE.ret _)) (fun hc4 => StE.next))))) (fun j hj => by
  simp only [impl_TxFault.l1_s]
  exact Evt.f (ge_lt hj) (Evt.self _))) (fun _ => rfl) (Evt.chk (by first | exact idx_ok (by omega) | exact idx_ok (by have hq := len_eq (by assumption); omega) | exact idx_found (by simp_all) | exact cut_ok (by omega) | exact or_ok (idx_ok (by omega)) | (refine or1 (fun hz => pre_ok (by simp at hz; omega) (by omega) (by omega))) | exact pre_ok (by omega) (by omega) (by omega) | (simp_all [idxOk, cutOk, leB]; done) | (simp_all [idxOk, cutOk, leB]; omega) | (simp [idxOk, cutOk, leB] at *; omega) | (simp_all [idxOk, impl_TxFault_1_v]; omega) | (have hf0 := h_x0.2.2.1.1; have hf1 := h_x0.2.2.2.1; simp only [leB, decide_eq_true_eq, List.length_append, List.length_cons, List.length_nil]; omega)) (Evt.ifh (fun hc5 => (Evt.self _)) (fun hc5 => (Evt.self _))))))))))))))))
def slices_Clone_impl_Member_v (x0 : List Member) : (List Member) := (([] : List Member) ++ x0)
theorem slices_Clone_impl_Member_ev (x0 : List Member) (h_x0 : (Lm smMember) x0) : Evt (fun k => slices_Clone_impl_Member.f k x0) (slices_Clone_impl_Member_v x0) :=
  (Evt.chk (by first | exact idx_ok (by omega) | exact idx_ok (by have hq := len_eq (by assumption); omega) | exact idx_found (by simp_all) | exact cut_ok (by omega) | exact or_ok (idx_ok (by omega)) | (refine or1 (fun hz => pre_ok (by simp at hz; omega) (by omega) (by omega))) | exact pre_ok (by omega) (by omega) (by omega) | (simp_all [idxOk, cutOk, leB]; done) | (simp_all [idxOk, cutOk, leB]; omega) | (simp [idxOk, cutOk, leB] at *; omega) | (have hf0 := h_x0.1; simp only [leB, decide_eq_true_eq, List.length_append, List.length_cons, List.length_nil]; omega)) (Evt.self _))
def cmp_isNaN_int64_v (x0 : Int) : Bool := (x0 != x0)
theorem cmp_isNaN_int64_ev (x0 : Int)  : Evt (fun k => cmp_isNaN_int64.f k x0) (cmp_isNaN_int64_v x0) :=
  (Evt.self _)
def cmp_Compare_int64_v (x0 : Int) (x1 : Int) : Int := (bif (cmp_isNaN_int64_v x0) then (bif (cmp_isNaN_int64_v x1) then 0 else (-1)) else (bif (cmp_isNaN_int64_v x1) then 1 else (bif (decide (x0 < x1)) then (-1) else (bif (decide (x1 < x0)) then 1 else 0))))
theorem cmp_Compare_int64_ev (x0 : Int) (x1 : Int)  : Evt (fun k => cmp_Compare_int64.f k x0 x1) (cmp_Compare_int64_v x0 x1) :=
  (Evt.bind (cmp_isNaN_int64_ev x0) (Evt.bind (cmp_isNaN_int64_ev x1) (Evt.ifh (fun hc4 => (Evt.ifh (fun hc0 => (Evt.self _)) (fun hc0 => (Evt.self _)))) (fun hc4 => (Evt.ifh (fun hc3 => (Evt.self _)) (fun hc3 => (Evt.ifh (fun hc2 => (Evt.self _)) (fun hc2 => (Evt.ifh (fun hc1 => (Evt.self _)) (fun hc1 => (Evt.self _)))))))))))
def impl_findMember_1_v (x0 : Member) (x1 : Int) : Int := (cmp_Compare_int64_v x0.fKey x1)
theorem impl_findMember_1_ev (x0 : Member) (x1 : Int)  : Evt (fun k => impl_findMember_1.f k x0 x1) (impl_findMember_1_v x0 x1) :=
  (Evt.bind (cmp_Compare_int64_ev x0.fKey x1) (Evt.self _))
/-! ### Search in a row that rises -/
def bsI (q : Nat → Bool) : Nat → Nat → Nat → Nat
  | 0, i, _ => i
  | m + 1, i, j => bif decide (i < j) then (bif q ((i + j) / 2) then bsI q m ((i + j) / 2 + 1) j else bsI q m i ((i + j) / 2)) else i
theorem mid_eq {i j : Nat} (h1 : i < j) (h2 : j ≤ 1048576) : wrap64 ((IntKind.u64.wrap (wrap64 ((i : Int) + (j : Int)))) / 2 ^ ((1 : Int)).toNat) = (((i + j) / 2 : Nat) : Int) := by
  have e1 : wrap64 ((i : Int) + (j : Int)) = (i : Int) + j := wrap64_in _ (by omega)
  have e2 : IntKind.u64.wrap ((i : Int) + j) = (i : Int) + j := u64_in _ (by omega)
  have e3 : (2 : Int) ^ ((1 : Int)).toNat = 2 := by decide
  rw [e1, e2, e3]
  have e4 : ((i : Int) + j) / 2 = (((i + j) / 2 : Nat) : Int) := by omega
  rw [e4]
  exact wrap64_in _ (by omega)
theorem Evt.bs {L : Nat → Int → Int → Option Int} (n : Nat) (q : Nat → Bool)
    (step : ∀ i j : Nat, i < j → j ≤ n → ∀ r, (q ((i + j) / 2) = true → Evt (fun k => L k (((i + j) / 2 + 1 : Nat) : Int) (j : Int)) r) → (q ((i + j) / 2) = false → Evt (fun k => L k (i : Int) (((i + j) / 2 : Nat) : Int)) r) → Evt (fun k => L (k + 1) (i : Int) (j : Int)) r)
    (done : ∀ i j : Nat, j ≤ i → Evt (fun k => L (k + 1) (i : Int) (j : Int)) (i : Int)) : Evt (fun k => L k 0 (n : Int)) ((bsI q n 0 n : Nat) : Int) := by
  have key : ∀ m i j : Nat, j ≤ i + m → j ≤ n → Evt (fun k => L k (i : Int) (j : Int)) ((bsI q m i j : Nat) : Int) := by
    intro m
    induction m with
    | zero => intro i j h _; exact Evt.s (done i j (by omega))
    | succ m ih =>
      intro i j h hj
      refine Evt.s ?_
      unfold bsI
      by_cases hlt : i < j
      · rw [decide_eq_true hlt]
        refine step i j hlt hj _ (fun hq => ?_) (fun hq => ?_)
        · rw [hq]; exact ih _ _ (by omega) hj
        · rw [hq]; exact ih _ _ (by omega) (by omega)
      · rw [decide_eq_false hlt]; exact done i j (by omega)
  exact key n 0 n (by omega) (Nat.le_refl _)
theorem bsI_spec (q : Nat → Bool) (n : Nat) (mono : ∀ a b, a ≤ b → b < n → q b = true → q a = true) :
    bsI q n 0 n ≤ n ∧ (∀ i, i < bsI q n 0 n → q i = true) ∧ (∀ i, bsI q n 0 n ≤ i → i < n → q i = false) := by
  have key : ∀ m i j : Nat, j ≤ i + m → i ≤ j → j ≤ n → (∀ a, a < i → q a = true) → (∀ a, j ≤ a → a < n → q a = false) →
      bsI q m i j ≤ n ∧ (∀ a, a < bsI q m i j → q a = true) ∧ (∀ a, bsI q m i j ≤ a → a < n → q a = false) := by
    intro m
    induction m with
    | zero =>
      intro i j h hij hj h1 h2
      have : i = j := by omega
      subst this
      exact ⟨hj, h1, h2⟩
    | succ m ih =>
      intro i j h hij hj h1 h2
      unfold bsI
      by_cases hlt : i < j
      · rw [decide_eq_true hlt]
        cases hq : q ((i + j) / 2)
        · exact ih _ _ (by omega) (by omega) (by omega) h1 fun a ha hn => by
            cases hqa : q a
            · rfl
            · rw [mono _ a ha hn hqa] at hq; cases hq
        · exact ih _ _ (by omega) (by omega) hj (fun a ha => mono a _ (by omega) (by omega) hq) h2
      · rw [decide_eq_false hlt]
        have : i = j := by omega
        subst this
        exact ⟨hj, h1, h2⟩
  exact key n 0 n (by omega) (by omega) (Nat.le_refl _) (fun a ha => by omega) (fun a ha hn => by omega)
theorem fs_none {β : Type} {p : Nat → Option β} : ∀ {l : List Nat}, (∀ i ∈ l, p i = none) → l.findSome? p = none
  | [], _ => rfl
  | i :: l, h => by rw [List.findSome?_cons, h i (List.mem_cons_self ..)]; exact fs_none fun j hj => h j (List.mem_cons_of_mem _ hj)
theorem fs_first {β : Type} {p : Nat → Option β} {x : β} : ∀ (d i B : Nat), i ≤ B → B < i + d → (∀ j, i ≤ j → j < B → p j = none) → p B = some x → (List.range' i d).findSome? p = some x
  | 0, i, B, h1, h2, _, _ => by omega
  | d + 1, i, B, h1, h2, h3, h4 => by
    rw [List.range'_succ, List.findSome?_cons]
    by_cases e : i = B
    · subst e; rw [h4]
    · rw [h3 i (Nat.le_refl _) (by omega)]
      exact fs_first d (i + 1) B (by omega) (by omega) (fun j hj => h3 j (by omega)) h4
/-- The search by halves finds what the search in turn finds. -/
theorem bs_find (n : Nat) (c : Nat → Int) (mono : ∀ a b, a ≤ b → b < n → c b < 0 → c a < 0) (str : ∀ a b, a < b → b < n → c b = 0 → c a < 0) (d : Int) :
    (List.range' 0 (n - 0)).findSome? (fun i => bif c i == 0 then some (i : Int) else none) =
      bif decide (((bsI (fun i => decide (c i < 0)) n 0 n : Nat) : Int) < (n : Int)) && ((bif decide (((bsI (fun i => decide (c i < 0)) n 0 n : Nat) : Int) < (n : Int)) then c (bsI (fun i => decide (c i < 0)) n 0 n) else d) == 0) then some ((bsI (fun i => decide (c i < 0)) n 0 n : Nat) : Int) else none := by
  obtain ⟨h1, h2, h3⟩ := bsI_spec (fun i => decide (c i < 0)) n (fun a b h hb hq => by simp at hq ⊢; exact mono a b h hb hq)
  generalize bsI (fun i => decide (c i < 0)) n 0 n = B at *
  by_cases hB : B < n
  · rw [decide_eq_true (show (B : Int) < (n : Int) by omega)]
    simp only [Bool.true_and, cond_true]
    by_cases h0 : c B = 0
    · rw [h0]
      refine fs_first (n - 0) 0 B (Nat.zero_le _) (by omega) (fun j _ hj => ?_) (by rw [h0]; rfl)
      have := h2 j hj
      simp at this
      have : (c j == 0) = false := by simp; omega
      rw [this]; rfl
    · have e0 : (c B == 0) = false := by simp [h0]
      rw [e0]
      refine fs_none fun i hi => ?_
      obtain ⟨j, hj, rfl⟩ := List.mem_range'.1 hi
      have e : (c (0 + 1 * j) == 0) = false := by
        simp only [beq_eq_false_iff_ne, ne_eq]
        intro hc
        rcases Nat.lt_trichotomy (0 + 1 * j) B with h | h | h
        · have := h2 _ h; simp at this; simp at hc; omega
        · rw [h] at hc; exact h0 hc
        · have h4 := str B _ h (by omega) hc
          have h5 := h3 B (Nat.le_refl _) hB
          simp at h5; omega
      rw [e]; rfl
  · rw [decide_eq_false (show ¬ (B : Int) < (n : Int) by omega)]
    refine fs_none fun i hi => ?_
    obtain ⟨j, hj, rfl⟩ := List.mem_range'.1 hi
    have h4 := h2 (0 + 1 * j) (by omega)
    simp only [decide_eq_true_eq] at h4
    have e : (c (0 + 1 * j) == 0) = false := by simp only [beq_eq_false_iff_ne, ne_eq]; omega
    rw [e]; rfl
def slices_BinarySearchFunc_impl_Member_v (x0 : List Member) (x1 : Int) : Int × Bool := (((bsI (fun i => decide (impl_findMember_1_v (gt x0 (i : Int)) x1 < 0)) x0.length 0 x0.length : Nat) : Int), (decide (((bsI (fun i => decide (impl_findMember_1_v (gt x0 (i : Int)) x1 < 0)) x0.length 0 x0.length : Nat) : Int) < (x0.length : Int)) && ((bif decide (((bsI (fun i => decide (impl_findMember_1_v (gt x0 (i : Int)) x1 < 0)) x0.length 0 x0.length : Nat) : Int) < (x0.length : Int)) then impl_findMember_1_v (gt x0 ((bsI (fun i => decide (impl_findMember_1_v (gt x0 (i : Int)) x1 < 0)) x0.length 0 x0.length : Nat) : Int)) x1 else default) == 0)))
theorem slices_BinarySearchFunc_impl_Member_ev (x0 : List Member) (x1 : Int) (h_x0 : ((Lm smMember)) x0) : Evt (fun k => slices_BinarySearchFunc_impl_Member.f k x0 x1) (slices_BinarySearchFunc_impl_Member_v x0 x1) := by
  have hn := h_x0.1
  refine Evt.bind (Evt.bs (L := fun k i j => slices_BinarySearchFunc_impl_Member.l0 x0 x1 k i j) x0.length (fun i => decide (impl_findMember_1_v (gt x0 (i : Int)) x1 < 0)) (fun i j h1 h2 r ht hf => ?_) (fun i j h => ?_)) ?_
  · simp only [slices_BinarySearchFunc_impl_Member.l0_s, mid_eq h1 (Nat.le_trans h2 hn)]
    refine Evt.t (by simp; omega) (Evt.chk rfl (Evt.chk (idx_ok (by omega)) (Evt.bind (impl_findMember_1_ev (gt x0 _) x1) (Evt.cases (fun hq => ?_) (fun hq => ?_)))))
    · rw [w64 (n := x0.length) (by omega) (by omega)]; exact ht hq
    · exact hf hq
  · simp only [slices_BinarySearchFunc_impl_Member.l0_s]
    exact Evt.f (by simp; omega) (Evt.self _)
  · refine Evt.chk (or1 fun hz => idx_ok (by simp at hz; omega)) (Evt.bind (Evt.ifh (fun hz => impl_findMember_1_ev (gt x0 _) x1) (fun _ => Evt.self _)) (Evt.self _))
def impl_findMember_v (x0 : List Member) (x1 : Int) : Int × Bool := ((slices_BinarySearchFunc_impl_Member_v x0 x1).1, (slices_BinarySearchFunc_impl_Member_v x0 x1).2)
theorem impl_findMember_ev (x0 : List Member) (x1 : Int) (h_x0 : (Lm smMember) x0) : Evt (fun k => impl_findMember.f k x0 x1) (impl_findMember_v x0 x1) :=
  (Evt.bind (slices_BinarySearchFunc_impl_Member_ev x0 x1 (h_x0)) (Evt.self _))
theorem findMember_in (x0 : List Member) (x1 : Int) (h : (!(impl_findMember_v x0 x1).2) = false) : idxOk (impl_findMember_v x0 x1).1 x0.length = true := by
  have h2 : (impl_findMember_v x0 x1).2 = true := notF h
  have h3 : (decide ((impl_findMember_v x0 x1).1 < (x0.length : Int))) = true := by
    have : (decide ((impl_findMember_v x0 x1).1 < (x0.length : Int)) && _) = true := h2
    exact (Bool.and_eq_true _ _ ▸ this).1
  unfold idxOk
  rw [Bool.and_eq_true]
  exact ⟨by show decide (0 ≤ ((_ : Nat) : Int)) = true; simp, h3⟩
def slices_Delete_impl_Member_v (x0 : List Member) (x1 : Int) (x2 : Int) : List Member := bif (x1 == x2) then x0 else x0.take (x1).toNat ++ x0.drop (x2).toNat
theorem slices_Delete_impl_Member_ev (x0 : List Member) (x1 : Int) (x2 : Int) (h1 : cutOk x2 x0.length = true) (h2 : cutOk x1 (x2).toNat = true) : Evt (fun k => slices_Delete_impl_Member.f k x0 x1 x2) (slices_Delete_impl_Member_v x0 x1 x2) := by
  have a1 := cut_lo h2
  have a2 := cut_hi h2
  have a3 := cut_hi h1
  have a4 := cut_lo h1
  refine Evt.chk h1 (Evt.chk h2 (Evt.ifh (fun _ => Evt.self _) (fun hne => Evt.chk ?_ (Evt.chk h1 (Evt.chk h2 (Evt.chk ?_ (Evt.chk ?_ (Evt.self _))))))))
  · unfold cutOk; simp; omega
  · have h5 : x1 ≠ x2 := by simpa using hne
    simp; omega
  · rw [List.length_append, List.length_take, List.length_drop]; simp; omega
def impl_takeMembers_1_v (x0 : Member) (x1 : Tx) : Bool := (slices_Contains_impl_Ref_v x1.fIns x0.fRef)
theorem impl_takeMembers_1_ev (x0 : Member) (x1 : Tx) (h_x1 : smTx x1) : Evt (fun k => impl_takeMembers_1.f k x0 x1) (impl_takeMembers_1_v x0 x1) :=
  (Evt.bind (slices_Contains_impl_Ref_ev x1.fIns x0.fRef (h_x1.2.2.1)) (Evt.self _))
def slices_IndexFunc_impl_Member_v2_v (x0 : List Member) (x1_0 : Tx) : Int := (onO ((List.range' 0 (x0.length - 0)).findSome? (fun (i0 : Nat) => (bif (impl_takeMembers_1_v (gt x0 (i0 : Int)) x1_0) then (some (i0 : Int)) else none))) (fun r => r) (-1))
theorem slices_IndexFunc_impl_Member_v2_ev (x0 : List Member) (x1_0 : Tx) (h_x0 : (Lm smMember) x0) (h_x1_0 : smTx x1_0) : Evt (fun k => slices_IndexFunc_impl_Member_v2.f k x0 x1_0) (slices_IndexFunc_impl_Member_v2_v x0 x1_0) :=
  (Evt.loop (r' := fun r => r) (Evt.srch (L := (fun k i => slices_IndexFunc_impl_Member_v2.l0 x0 x1_0 k i)) 0 x0.length (by have := h_x0; first | (have := this.1; omega) | omega) (fun (i0 : Nat) => (bif (impl_takeMembers_1_v (gt x0 (i0 : Int)) x1_0) then (some (i0 : Int)) else none)) (fun i0 hs2 hi2 => by
  have hbn : x0.length ≤ 9223372036854775807 := (by have := h_x0; first | (have := this.1; omega) | omega)
  simp only [slices_IndexFunc_impl_Member_v2.l0_s]
  exact Evt_t2 (int_lt hi2) (StE.chk (by first | exact idx_ok (by omega) | exact idx_ok (by have hq := len_eq (by assumption); omega) | exact idx_found (show (0 : Int) ≤ (i0 : Int) by simp_all) | exact cut_ok (by omega) | exact or_ok (idx_ok (by omega)) | (refine or1 (fun hz => pre_ok (by simp at hz; omega) (by omega) (by omega))) | exact pre_ok (by omega) (by omega) (by omega) | (simp_all [idxOk, cutOk, leB]; done) | (simp_all [idxOk, cutOk, leB]; omega) | (simp [idxOk, cutOk, leB] at *; omega) | (have hf0 := h_x0.1; have hf1 := h_x1_0.2.2.1.1; have hf2 := h_x1_0.2.2.2.1; simp only [leB, decide_eq_true_eq, List.length_append, List.length_cons, List.length_nil]; omega)) (StE.bind (impl_takeMembers_1_ev (gt x0 (i0 : Int)) x1_0 (h_x1_0)) (StE.ifh (fun hc1 => (StE.ret _)) (fun hc1 => StE.next))))) (fun j hj => by
  simp only [slices_IndexFunc_impl_Member_v2.l0_s]
  exact Evt.f (ge_lt hj) (Evt.self _))) (fun _ => rfl) (Evt.self _))
def mKeep (t : Tx) (m : Member) : Bool := !(impl_takeMembers_1_v m t)
def slices_DeleteFunc_impl_Member_v (x0 : List Member) (x1_0 : Tx) : List Member := x0.filter (mKeep x1_0)
theorem delFunc_loop (xs : List Member) (t : Tx) (h0 : xs.length ≤ 1048576) (h1 : smTx t) : ∀ (d j i : Nat) (s : List Member), j + d = xs.length → i ≤ j → s.length = xs.length → s.drop j = xs.drop j →
    ∃ (s' : List Member) (i' : Nat), Evt (fun k => slices_DeleteFunc_impl_Member.l0 t k s (i : Int) (j : Int)) (s', (i' : Int)) ∧ s'.length = xs.length ∧ i' ≤ xs.length ∧ s'.take i' = s.take i ++ (xs.drop j).filter (mKeep t)
  | 0, j, i, s, hd, hij, hs, hdr => by
    refine ⟨s, i, Evt.s ?_, hs, by omega, ?_⟩
    · simp only [slices_DeleteFunc_impl_Member.l0_s]
      exact Evt.f (decide_eq_false (by omega)) (Evt.self _)
    · rw [List.drop_of_length_le (by omega), List.filter_nil, List.append_nil]
  | d + 1, j, i, s, hd, hij, hs, hdr => by
    have hj : j < xs.length := by omega
    have hjs : j < s.length := by omega
    have e0 : xs.drop j = gt s (j : Int) :: xs.drop (j + 1) := by
      rw [← hdr, gt_eq (by simpa using hjs)]
      simp only [Int.toNat_natCast]
      rw [List.drop_eq_getElem_cons hjs]
      congr 1
      have := congrArg (List.drop 1) hdr
      rw [List.drop_drop, List.drop_drop] at this
      exact this
    have hdr1 : s.drop (j + 1) = xs.drop (j + 1) := by
      have := congrArg (List.drop 1) hdr
      rw [List.drop_drop, List.drop_drop] at this
      exact this
    have ew : wrap64 ((j : Int) + 1) = ((j + 1 : Nat) : Int) := by rw [wrap64_in _ (by omega)]; omega
    have ewi : wrap64 ((i : Int) + 1) = ((i + 1 : Nat) : Int) := by rw [wrap64_in _ (by omega)]; omega
    have ea := impl_takeMembers_1_ev (gt s (j : Int)) t h1
    cases hm : impl_takeMembers_1_v (gt s (j : Int)) t
    · have hk : mKeep t (gt s (j : Int)) = true := by unfold mKeep; rw [hm]; rfl
      obtain ⟨s', i', e, r1, r2, r3⟩ := delFunc_loop xs t h0 h1 d (j + 1) (i + 1) (s.set i (gt s (j : Int))) (by omega) (by omega) (by rw [List.length_set]; exact hs) (by rw [List.drop_set_of_lt (by omega)]; exact hdr1)
      refine ⟨s', i', Evt.s ?_, r1, r2, ?_⟩
      · simp only [slices_DeleteFunc_impl_Member.l0_s, ew, ewi, Int.toNat_natCast]
        rw [hm] at ea
        exact Evt.t (int_lt hjs) (Evt.chk (idx_ok hjs) (Evt.bind ea (Evt.t rfl (Evt.chk (idx_ok (by omega)) e))))
      · rw [r3, e0, List.filter_cons_of_pos hk, List.take_add_one, List.take_set_of_le (Nat.le_refl _), List.getElem?_set_self (by omega)]
        simp
    · have hk : ¬ mKeep t (gt s (j : Int)) = true := by unfold mKeep; rw [hm]; exact Bool.false_ne_true
      obtain ⟨s', i', e, r1, r2, r3⟩ := delFunc_loop xs t h0 h1 d (j + 1) i s (by omega) (by omega) hs hdr1
      refine ⟨s', i', Evt.s ?_, r1, r2, ?_⟩
      · simp only [slices_DeleteFunc_impl_Member.l0_s, ew]
        rw [hm] at ea
        exact Evt.t (int_lt hjs) (Evt.chk (idx_ok hjs) (Evt.bind ea (Evt.f rfl e)))
      · rw [r3, e0, List.filter_cons_of_neg hk]
theorem fs_at {n : Nat} {p : Nat → Bool} {i : Nat} (h : (List.range' 0 (n - 0)).findSome? (fun (i0 : Nat) => (bif p i0 then (some (i0 : Int)) else none)) = some (i : Int)) : i < n ∧ p i = true ∧ ∀ j, j < i → p j = false := by
  have key : ∀ (m a : Nat), (List.range' a m).findSome? (fun (i0 : Nat) => (bif p i0 then (some (i0 : Int)) else none)) = some (i : Int) → a ≤ i ∧ i < a + m ∧ p i = true ∧ ∀ j, a ≤ j → j < i → p j = false := by
    intro m
    induction m with
    | zero => intro a h; simp at h
    | succ m ih =>
      intro a h
      rw [List.range'_succ, List.findSome?_cons] at h
      cases hp : p a
      · rw [hp] at h
        obtain ⟨h1, h2, h3, h4⟩ := ih (a + 1) h
        refine ⟨by omega, by omega, h3, fun j hj hi => ?_⟩
        rcases Nat.lt_or_eq_of_le hj with h' | h'
        · exact h4 j (by omega) hi
        · subst h'; exact hp
      · rw [hp] at h
        have : (a : Int) = (i : Int) := Option.some.inj h
        obtain rfl : a = i := by omega
        exact ⟨Nat.le_refl _, by omega, hp, fun j h1 h2 => by omega⟩
  obtain ⟨_, h2, h3, h4⟩ := key (n - 0) 0 h
  exact ⟨by omega, h3, fun j hj => h4 j (by omega) hj⟩
theorem slices_DeleteFunc_impl_Member_ev (x0 : List Member) (x1_0 : Tx) (h_x0 : Lm smMember x0) (h_x1_0 : smTx x1_0) : Evt (fun k => slices_DeleteFunc_impl_Member.f k x0 x1_0) (slices_DeleteFunc_impl_Member_v x0 x1_0) := by
  have hl := h_x0.1
  refine Evt.bind (slices_IndexFunc_impl_Member_v2_ev x0 x1_0 h_x0 h_x1_0) ?_
  unfold slices_IndexFunc_impl_Member_v2_v slices_DeleteFunc_impl_Member_v
  cases hf : (List.range' 0 (x0.length - 0)).findSome? (fun (i0 : Nat) => (bif (impl_takeMembers_1_v (gt x0 (i0 : Int)) x1_0) then (some (i0 : Int)) else none)) with
  | none =>
    have e : x0.filter (mKeep x1_0) = x0 := by
      rw [List.filter_eq_self]
      intro m hm
      obtain ⟨i, hi, rfl⟩ := List.getElem_of_mem hm
      rw [List.findSome?_eq_none_iff] at hf
      have := hf i (by rw [List.mem_range'_1]; omega)
      rw [gt_eq (by simpa using hi)] at this
      simp only [Int.toNat_natCast] at this
      unfold mKeep
      cases hq : impl_takeMembers_1_v x0[i] x1_0
      · rfl
      · rw [hq] at this; cases this
    rw [e]
    exact Evt.t rfl (Evt.self _)
  | some z =>
    obtain ⟨i, hz, hi, hp, hq⟩ : ∃ i : Nat, z = (i : Int) ∧ i < x0.length ∧ impl_takeMembers_1_v (gt x0 (i : Int)) x1_0 = true ∧ ∀ j : Nat, j < i → impl_takeMembers_1_v (gt x0 (j : Int)) x1_0 = false := by
      obtain ⟨a, ha, hb⟩ := List.exists_of_findSome?_eq_some hf
      cases hc : impl_takeMembers_1_v (gt x0 (a : Int)) x1_0
      · rw [hc] at hb; cases hb
      · rw [hc] at hb
        obtain rfl : (a : Int) = z := Option.some.inj hb
        obtain ⟨h1, h2, h3⟩ := fs_at (p := fun i0 => impl_takeMembers_1_v (gt x0 (i0 : Int)) x1_0) hf
        exact ⟨a, rfl, h1, h2, h3⟩
    subst hz
    have ewi : wrap64 ((i : Int) + 1) = ((i + 1 : Nat) : Int) := by rw [wrap64_in _ (by omega)]; omega
    obtain ⟨s', i', e, r1, r2, r3⟩ := delFunc_loop x0 x1_0 hl h_x1_0 (x0.length - (i + 1)) (i + 1) i x0 (by omega) (by omega) rfl rfl
    have ef : x0.filter (mKeep x1_0) = s'.take i' := by
      rw [r3]
      have e1 : x0 = x0.take i ++ (gt x0 (i : Int) :: x0.drop (i + 1)) := by
        rw [gt_eq (by simpa using hi)]
        simp only [Int.toNat_natCast]
        rw [← List.drop_eq_getElem_cons hi, List.take_append_drop]
      have hk : ¬ mKeep x1_0 (gt x0 (i : Int)) = true := by unfold mKeep; rw [hp]; exact Bool.false_ne_true
      have e2 : (x0.take i).filter (mKeep x1_0) = x0.take i := by
        rw [List.filter_eq_self]
        intro m hm
        rw [List.mem_take_iff_getElem] at hm
        obtain ⟨j, hj, rfl⟩ := hm
        have := hq j (by omega)
        rw [gt_eq (by simp; omega)] at this
        simp only [Int.toNat_natCast] at this
        unfold mKeep
        rw [this]; rfl
      conv => lhs; rw [e1, List.filter_append, List.filter_cons_of_neg hk, e2]
    rw [ef]
    have hne : ((i : Int) == -1) = false := beq_false_of_ne (by omega)
    have e3 : onO (some (i : Int)) (fun r => r) (-1) = (i : Int) := rfl
    rw [e3, ewi]
    refine Evt.f hne ?_
    refine Evt.bind e ?_
    show Evt (fun k => chk (cutOk (i' : Int) s'.length) (some (s'.take ((i' : Int)).toNat))) _
    exact Evt.chk (cut_ok (by omega)) (by simp only [Int.toNat_natCast]; exact Evt.self _)
def impl_takeMembers_2_v (x0 : Member) (x1 : Ref) : Bool := ((x0.fRef.fTx == x1.fTx) && (x0.fRef.fAt == x1.fAt))
theorem impl_takeMembers_2_ev (x0 : Member) (x1 : Ref)  : Evt (fun k => impl_takeMembers_2.f k x0 x1) (impl_takeMembers_2_v x0 x1) :=
  (Evt.self _)
def slices_IndexFunc_impl_Member_v3_v (x0 : List Member) (x1_0 : Ref) : Int := (onO ((List.range' 0 (x0.length - 0)).findSome? (fun (i0 : Nat) => (bif (impl_takeMembers_2_v (gt x0 (i0 : Int)) x1_0) then (some (i0 : Int)) else none))) (fun r => r) (-1))
theorem slices_IndexFunc_impl_Member_v3_ev (x0 : List Member) (x1_0 : Ref) (h_x0 : (Lm smMember) x0) : Evt (fun k => slices_IndexFunc_impl_Member_v3.f k x0 x1_0) (slices_IndexFunc_impl_Member_v3_v x0 x1_0) :=
  (Evt.loop (r' := fun r => r) (Evt.srch (L := (fun k i => slices_IndexFunc_impl_Member_v3.l0 x0 x1_0 k i)) 0 x0.length (by have := h_x0; first | (have := this.1; omega) | omega) (fun (i0 : Nat) => (bif (impl_takeMembers_2_v (gt x0 (i0 : Int)) x1_0) then (some (i0 : Int)) else none)) (fun i0 hs2 hi2 => by
  have hbn : x0.length ≤ 9223372036854775807 := (by have := h_x0; first | (have := this.1; omega) | omega)
  simp only [slices_IndexFunc_impl_Member_v3.l0_s]
  exact Evt_t2 (int_lt hi2) (StE.chk (by first | exact idx_ok (by omega) | exact idx_ok (by have hq := len_eq (by assumption); omega) | exact idx_found (show (0 : Int) ≤ (i0 : Int) by simp_all) | exact cut_ok (by omega) | exact or_ok (idx_ok (by omega)) | (refine or1 (fun hz => pre_ok (by simp at hz; omega) (by omega) (by omega))) | exact pre_ok (by omega) (by omega) (by omega) | (simp_all [idxOk, cutOk, leB]; done) | (simp_all [idxOk, cutOk, leB]; omega) | (simp [idxOk, cutOk, leB] at *; omega) | (have hf0 := h_x0.1; simp only [leB, decide_eq_true_eq, List.length_append, List.length_cons, List.length_nil]; omega)) (StE.bind (impl_takeMembers_2_ev (gt x0 (i0 : Int)) x1_0) (StE.ifh (fun hc1 => (StE.ret _)) (fun hc1 => StE.next))))) (fun j hj => by
  simp only [slices_IndexFunc_impl_Member_v3.l0_s]
  exact Evt.f (ge_lt hj) (Evt.self _))) (fun _ => rfl) (Evt.self _))
def slices_ContainsFunc_impl_Member_v2_v (x0 : List Member) (x1_0 : Ref) : Bool := (decide (0 ≤ (slices_IndexFunc_impl_Member_v3_v x0 x1_0)))
theorem slices_ContainsFunc_impl_Member_v2_ev (x0 : List Member) (x1_0 : Ref) (h_x0 : (Lm smMember) x0) : Evt (fun k => slices_ContainsFunc_impl_Member_v2.f k x0 x1_0) (slices_ContainsFunc_impl_Member_v2_v x0 x1_0) :=
  (Evt.bind (slices_IndexFunc_impl_Member_v3_ev x0 x1_0 (h_x0)) (Evt.self _))
theorem slices_ContainsFunc_impl_Member_v2_any (x0 : List Member) (x1_0 : Ref) : slices_ContainsFunc_impl_Member_v2_v x0 x1_0 = (List.range' 0 (x0.length - 0)).any (fun (i0 : Nat) => (impl_takeMembers_2_v (gt x0 (i0 : Int)) x1_0)) := idx_any _ _
def slices_Insert_Member_v (x0 : List Member) (x1 : Int) (x2 : List Member) : List Member := x0.take x1.toNat ++ x2 ++ x0.drop x1.toNat
theorem slices_Insert_Member_ev (x0 : List Member) (x1 : Int) (x2 : List Member) (h0 : x0.length ≤ 1048576) (h2 : x2.length ≤ 1048576) (h1 : 1 ≤ x2.length) (hc : cutOk x1 x0.length = true) : Evt (fun k => slices_Insert_Member.f k x0 x1 x2) (slices_Insert_Member_v x0 x1 x2) := by
  refine Evt.chk ?_ (Evt.self _)
  rw [hc, Bool.true_and, Bool.and_eq_true]
  exact ⟨decide_eq_true h1, decide_eq_true (by omega)⟩
theorem bsI_le (q : Nat → Bool) : ∀ m i j : Nat, i ≤ j → bsI q m i j ≤ j
  | 0, i, j, h => h
  | m + 1, i, j, h => by
    unfold bsI
    by_cases hlt : i < j
    · rw [decide_eq_true hlt]
      cases q ((i + j) / 2)
      · exact Nat.le_trans (bsI_le q m i ((i + j) / 2) (by omega)) (by omega)
      · exact bsI_le q m ((i + j) / 2 + 1) j (by omega)
    · rw [decide_eq_false hlt]; exact h
theorem findMember_pos (xs : List Member) (key : Int) : ∃ p : Nat, (impl_findMember_v xs key).1 = (p : Int) ∧ p ≤ xs.length := ⟨_, rfl, bsI_le _ _ _ _ (by omega)⟩
theorem findMember_lt (xs : List Member) (key : Int) (h : (!(impl_findMember_v xs key).2) = false) : (impl_findMember_v xs key).1 < (xs.length : Int) := by
  have h2 : (impl_findMember_v xs key).2 = true := by
    cases hq : (impl_findMember_v xs key).2
    · rw [hq] at h; cases h
    · rfl
  have h3 : (decide ((impl_findMember_v xs key).1 < (xs.length : Int))) = true := by
    have : (decide ((impl_findMember_v xs key).1 < (xs.length : Int)) && _) = true := h2
    exact (Bool.and_eq_true _ _ ▸ this).1
  exact of_decide_eq_true h3
def tmBase (x0 : List Member) (x1 : Tx) : Option (List Member) := bif x1.fKind == 2 then (bif !(impl_findMember_v x0 x1.fMember).2 then none else some (slices_Delete_impl_Member_v x0 (impl_findMember_v x0 x1.fMember).1 (wrap64 ((impl_findMember_v x0 x1.fMember).1 + 1)))) else some x0
theorem tmBase_sub (x0 : List Member) (x1 : Tx) (b : List Member) (h0 : x0.length ≤ 1048576) (h : tmBase x0 x1 = some b) : b.Sublist x0 := by
  unfold tmBase at h
  cases hq : x1.fKind == 2 <;> rw [hq] at h
  · obtain rfl : x0 = b := Option.some.inj h
    exact List.Sublist.refl _
  · cases hf : !(impl_findMember_v x0 x1.fMember).2
    · rw [hf] at h
      obtain ⟨p, hp, hle⟩ := findMember_pos x0 x1.fMember
      have hlt := findMember_lt x0 x1.fMember hf
      rw [hp] at h hlt
      have ew : wrap64 ((p : Int) + 1) = ((p + 1 : Nat) : Int) := by rw [wrap64_in _ (by omega)]; omega
      rw [ew] at h
      obtain rfl := Option.some.inj h
      unfold slices_Delete_impl_Member_v
      rw [beq_false_of_ne (by omega)]
      simp only [Int.toNat_natCast, cond_false]
      have e := List.take_append_drop p x0
      conv => rhs; rw [← e]
      exact List.Sublist.append (.refl _) (by rw [← List.drop_drop]; exact List.drop_sublist _ _)
    · rw [hf] at h; cases h
def tmJoin (out : List Member) (m : Member) : List Member × Int :=
  bif (impl_findMember_v out m.fKey).2 || (bif !(impl_findMember_v out m.fKey).2 then slices_ContainsFunc_impl_Member_v2_v out m.fRef else default) then ([], 7) else bif ((out.length : Int) == 8) then ([], 2) else (out.take (impl_findMember_v out m.fKey).1.toNat ++ [m] ++ out.drop (impl_findMember_v out m.fKey).1.toNat, 0)
def impl_takeMembers_v (x0 : List Member) (x1 : Tx) (x2 : Int) : (List Member) × Int :=
  bif !(impl_isId_v x2) then ([], 3) else match tmBase x0 x1 with
    | none => ([], 4)
    | some b => bif x1.fKind != 1 then (slices_DeleteFunc_impl_Member_v b x1, 0) else tmJoin (slices_DeleteFunc_impl_Member_v b x1) ⟨x1.fMember, ⟨x2, 0⟩⟩
theorem impl_takeMembers_ev (x0 : List Member) (x1 : Tx) (x2 : Int) (h_x0 : Lm smMember x0) (h_x1 : smTx x1) : Evt (fun k => impl_takeMembers.f k x0 x1 x2) (impl_takeMembers_v x0 x1 x2) := by
  have hl := h_x0.1
  refine Evt.bind (impl_isId_ev x2) ?_
  unfold impl_takeMembers_v
  cases !(impl_isId_v x2)
  · refine Evt.f rfl (Evt.bind (slices_Clone_impl_Member_ev x0 h_x0) ?_)
    have ec : slices_Clone_impl_Member_v x0 = x0 := rfl
    rw [ec]
    have mid : Evt (fun k => (bif (x1.fKind == 2) then ((impl_findMember.f k x0 x1.fMember).bind fun t => (bif !t.2 then some (.inl (([] : List Member), (4 : Int))) else ((slices_Delete_impl_Member.f k x0 t.1 (wrap64 (t.1 + 1))).bind fun t2 => some (.inr t2)))) else some (.inr x0))) (match tmBase x0 x1 with
        | none => (.inl (([] : List Member), (4 : Int)) : (List Member × Int) ⊕ List Member)
        | some b => .inr b) := by
      unfold tmBase
      cases x1.fKind == 2
      · exact Evt.f rfl (Evt.self _)
      · refine Evt.t rfl (Evt.bind (impl_findMember_ev x0 x1.fMember h_x0) ?_)
        cases hf : !(impl_findMember_v x0 x1.fMember).2
        · obtain ⟨p, hp, hle⟩ := findMember_pos x0 x1.fMember
          have hlt := findMember_lt x0 x1.fMember hf
          have hi : idxOk (impl_findMember_v x0 x1.fMember).1 x0.length = true := by rw [hp] at hlt ⊢; exact idx_ok (by omega)
          exact Evt.f rfl (Evt.bind (slices_Delete_impl_Member_ev x0 _ _ (cut_next hi hl) (cut_self hi hl)) (Evt.self _))
        · exact Evt.t rfl (Evt.self _)
    refine Evt.bind mid ?_
    cases hb : tmBase x0 x1 with
    | none => exact Evt.self _
    | some b =>
      have hbs : Lm smMember b := Lm_sub h_x0 (tmBase_sub x0 x1 b hl hb)
      show Evt (fun k => (slices_DeleteFunc_impl_Member.f k b x1).bind _) (bif x1.fKind != 1 then (slices_DeleteFunc_impl_Member_v b x1, 0) else tmJoin (slices_DeleteFunc_impl_Member_v b x1) ⟨x1.fMember, ⟨x2, 0⟩⟩)
      refine Evt.bind (slices_DeleteFunc_impl_Member_ev b x1 hbs h_x1) ?_
      have hos : Lm smMember (slices_DeleteFunc_impl_Member_v b x1) := Lm_sub hbs List.filter_sublist
      generalize slices_DeleteFunc_impl_Member_v b x1 = out at hos
      cases x1.fKind != 1
      · refine Evt.f rfl (Evt.bind (impl_findMember_ev out x1.fMember hos) ?_)
        refine Evt.bind (Evt.ifh (fun _ => slices_ContainsFunc_impl_Member_v2_ev out ⟨x2, 0⟩ hos) (fun _ => Evt.self _)) ?_
        show Evt _ (tmJoin out ⟨x1.fMember, ⟨x2, 0⟩⟩)
        unfold tmJoin
        cases (impl_findMember_v out x1.fMember).2 || (bif !(impl_findMember_v out x1.fMember).2 then slices_ContainsFunc_impl_Member_v2_v out ⟨x2, 0⟩ else default)
        · refine Evt.f rfl ?_
          cases (out.length : Int) == 8
          · obtain ⟨p, hp, hle⟩ := findMember_pos out x1.fMember
            have ho := hos.1
            exact Evt.f rfl (Evt.bind (slices_Insert_Member_ev out _ _ ho (by simp) (by simp) (by rw [hp]; exact cut_ok hle)) (Evt.self _))
          · exact Evt.t rfl (Evt.self _)
        · exact Evt.t rfl (Evt.self _)
      · exact Evt.t rfl (Evt.self _)
  · exact Evt.t rfl (Evt.self _)
def impl_TakeMembers_v (x0 : List Member) (x1 : Tx) (x2 : Int) : MembersResult := (bif ((impl_MembersFault_v x0) != 0) then (⟨(impl_MembersFault_v x0), ([] : List Member)⟩ : MembersResult) else (bif ((impl_TxFault_v x1) != 0) then (⟨(impl_TxFault_v x1), ([] : List Member)⟩ : MembersResult) else (⟨(impl_takeMembers_v x0 x1 x2).2, (impl_takeMembers_v x0 x1 x2).1⟩ : MembersResult)))
theorem impl_TakeMembers_ev (x0 : List Member) (x1 : Tx) (x2 : Int) (h_x0 : (Lm smMember) x0) (h_x1 : smTx x1) : Evt (fun k => impl_TakeMembers.f k x0 x1 x2) (impl_TakeMembers_v x0 x1 x2) :=
  (Evt.bind (impl_MembersFault_ev x0 (h_x0)) (Evt.ifh (fun hc1 => (Evt.self _)) (fun hc1 => (Evt.bind (impl_TxFault_ev x1 (h_x1)) (Evt.ifh (fun hc0 => (Evt.self _)) (fun hc0 => (Evt.bind (impl_takeMembers_ev x0 x1 x2 (h_x0) (h_x1)) (Evt.self _))))))))
theorem eqRef_ev (x : Ref) (h : smRef x) : Evt (fun k => laws_eqRef.f k x x) true := Evt.f (by simp [sEq_refl]) (Evt.f (by simp [sEq_refl]) (Evt.self _))
theorem eqMember_ev (x : Member) (h : smMember x) : Evt (fun k => laws_eqMember.f k x x) true := Evt.f (by simp [sEq_refl]) (Evt.bind (eqRef_ev _ h.2) (Evt.f rfl (Evt.self _)))
theorem eqMemberS_ev (x : List Member) (h : (Lm smMember) x) : Evt (fun k => laws_eqMemberS.f k x x) true := by
  have hn := h.1
  refine (Evt.eqr (L := fun k i => laws_eqMemberS.l0 x x k i) (fun _ _ => true) x x (by omega) (fun i h1 h2 o ht hf => ?_) ?_).to (eqRows_refl (fun _ => rfl) x)
  · refine Evt.s ?_
    simp only [laws_eqMemberS.l0_s]
    exact Evt.t (int_lt h1) (Evt.chk (idx_ok h1) (Evt.chk (idx_ok h2) (Evt.bind (eqMember_ev _ (h.2 _ (gt_mem h1))) (Evt.f rfl (ht rfl)))))
  · refine Evt.s ?_
    simp only [laws_eqMemberS.l0_s]
    exact Evt.f int_nlt (Evt.self _)
theorem eqMembersResult_ev (x : MembersResult) (h : smMembersResult x) : Evt (fun k => laws_eqMembersResult.f k x x) true := Evt.f (by simp [sEq_refl]) (Evt.bind (eqMemberS_ev _ h.2) (Evt.f rfl (Evt.self _)))
theorem eqRefS_ev (x : List Ref) (h : (Lm smRef) x) : Evt (fun k => laws_eqRefS.f k x x) true := by
  have hn := h.1
  refine (Evt.eqr (L := fun k i => laws_eqRefS.l0 x x k i) (fun _ _ => true) x x (by omega) (fun i h1 h2 o ht hf => ?_) ?_).to (eqRows_refl (fun _ => rfl) x)
  · refine Evt.s ?_
    simp only [laws_eqRefS.l0_s]
    exact Evt.t (int_lt h1) (Evt.chk (idx_ok h1) (Evt.chk (idx_ok h2) (Evt.bind (eqRef_ev _ (h.2 _ (gt_mem h1))) (Evt.f rfl (ht rfl)))))
  · refine Evt.s ?_
    simp only [laws_eqRefS.l0_s]
    exact Evt.f int_nlt (Evt.self _)
theorem eqInt64S_ev (x : List Int) (h : (Lm tr) x) : Evt (fun k => laws_eqInt64S.f k x x) true := by
  have hn := h.1
  refine (Evt.eqr (L := fun k i => laws_eqInt64S.l0 x x k i) (fun _ _ => true) x x (by omega) (fun i h1 h2 o ht hf => ?_) ?_).to (eqRows_refl (fun _ => rfl) x)
  · refine Evt.s ?_
    simp only [laws_eqInt64S.l0_s]
    exact Evt.t (int_lt h1) (Evt.chk (idx_ok h1) (Evt.chk (idx_ok h2) (Evt.f (by simp [sEq_refl]) (ht rfl))))
  · refine Evt.s ?_
    simp only [laws_eqInt64S.l0_s]
    exact Evt.f int_nlt (Evt.self _)
theorem eqRule_ev (x : Rule) (h : smRule x) : Evt (fun k => laws_eqRule.f k x x) true := Evt.bind (eqInt64S_ev _ h.1) (Evt.f rfl (Evt.f (by simp [sEq_refl]) (Evt.f (by simp [sEq_refl]) (Evt.self _))))
theorem eqOut_ev (x : Out) (h : smOut x) : Evt (fun k => laws_eqOut.f k x x) true := Evt.f (by simp [sEq_refl]) (Evt.bind (eqRule_ev _ h.2) (Evt.f rfl (Evt.self _)))
theorem eqOutS_ev (x : List Out) (h : (Lm smOut) x) : Evt (fun k => laws_eqOutS.f k x x) true := by
  have hn := h.1
  refine (Evt.eqr (L := fun k i => laws_eqOutS.l0 x x k i) (fun _ _ => true) x x (by omega) (fun i h1 h2 o ht hf => ?_) ?_).to (eqRows_refl (fun _ => rfl) x)
  · refine Evt.s ?_
    simp only [laws_eqOutS.l0_s]
    exact Evt.t (int_lt h1) (Evt.chk (idx_ok h1) (Evt.chk (idx_ok h2) (Evt.bind (eqOut_ev _ (h.2 _ (gt_mem h1))) (Evt.f rfl (ht rfl)))))
  · refine Evt.s ?_
    simp only [laws_eqOutS.l0_s]
    exact Evt.f int_nlt (Evt.self _)
theorem eqTx_ev (x : Tx) (h : smTx x) : Evt (fun k => laws_eqTx.f k x x) true := Evt.f (by simp [sEq_refl]) (Evt.f (by simp [sEq_refl]) (Evt.bind (eqRefS_ev _ h.2.2.1) (Evt.f rfl (Evt.bind (eqOutS_ev _ h.2.2.2) (Evt.f rfl (Evt.self _))))))
theorem markMemberS_mh (x : List Member) (h : (Lm smMember) x) (s : Int) (h1 : 1 ≤ s) (h2 : s + 3145728 ≤ 4611686018427387904) : ∃ y t, s ≤ t ∧ t ≤ s + 3145728 ∧ Evt (fun k => laws_markMemberS.f k x s) (t, y) ∧ Evt (fun k => laws_heldMemberS.f k y s) t := by
  have hn := h.1
  have hc : (x.length : Int) * 3 ≤ 3145728 := by omega
  obtain ⟨ys, t, a1, a2, a3, a4, a5⟩ := mark_held (fun k a s i => laws_markMemberS.l0 k a s i) (fun a k s i => laws_heldMemberS.l0 a k s i) True 3 (by omega) smMember (fun acc s i hi hp h1 h2 => by
    have w0 : wrap64 (s + 1) = s + 1 := wrap64_in _ (by omega)
    have w1 : wrap64 ((s + 1) + 1) = (s + 1) + 1 := wrap64_in _ (by omega)
    have w2 : wrap64 (((s + 1) + 1) + 1) = ((s + 1) + 1) + 1 := wrap64_in _ (by omega)
    refine ⟨⟨s, ⟨(s + 1), ((s + 1) + 1)⟩⟩, (((s + 1) + 1) + 1), by omega, by omega, fun r hr => ?_, fun hB ys hi hy r hr => ?_⟩
    · simp only [laws_markMemberS.l0_s, int_lt hi, cond_true, idx_ok hi, chkT, Int.toNat_natCast, List.length_set, gt_set hi, List.set_set, w0, w1, w2]
      exact hr
    · simp only [laws_heldMemberS.l0_s, int_lt hi, cond_true, idx_ok hi, chkT, hy, bne_self_eq_false, cond_false, w0, w1, w2]
      exact hr) (fun acc s => by
    simp only [laws_markMemberS.l0_s]
    exact Evt.f int_nlt (Evt.self _)) (fun _ ys s => by
    simp only [laws_heldMemberS.l0_s]
    exact Evt.f int_nlt (Evt.self _)) x (by omega) h.2 s h1 (by omega)
  exact ⟨ys, t, a2, by omega, Evt.bind a4 (Evt.self _), Evt.bind (a5 trivial) (Evt.self _)⟩
theorem markRefS_mh (x : List Ref) (h : (Lm smRef) x) (s : Int) (h1 : 1 ≤ s) (h2 : s + 2097152 ≤ 4611686018427387904) : ∃ y t, s ≤ t ∧ t ≤ s + 2097152 ∧ Evt (fun k => laws_markRefS.f k x s) (t, y) := by
  have hn := h.1
  have hc : (x.length : Int) * 2 ≤ 2097152 := by omega
  obtain ⟨ys, t, a1, a2, a3, a4, a5⟩ := mark_held (fun k a s i => laws_markRefS.l0 k a s i) (fun a k s i => none) False 2 (by omega) smRef (fun acc s i hi hp h1 h2 => by
    have w0 : wrap64 (s + 1) = s + 1 := wrap64_in _ (by omega)
    have w1 : wrap64 ((s + 1) + 1) = (s + 1) + 1 := wrap64_in _ (by omega)
    refine ⟨⟨s, (s + 1)⟩, ((s + 1) + 1), by omega, by omega, fun r hr => ?_, fun hB ys hi hy r hr => ?_⟩
    · simp only [laws_markRefS.l0_s, int_lt hi, cond_true, idx_ok hi, chkT, Int.toNat_natCast, List.length_set, gt_set hi, List.set_set, w0, w1]
      exact hr
    · exact hB.elim) (fun acc s => by
    simp only [laws_markRefS.l0_s]
    exact Evt.f int_nlt (Evt.self _)) (fun h => h.elim) x (by omega) h.2 s h1 (by omega)
  exact ⟨ys, t, a2, by omega, Evt.bind a4 (Evt.self _)⟩
theorem markInt64S_mh (x : List Int) (h : (Lm tr) x) (s : Int) (h1 : 1 ≤ s) (h2 : s + 1048576 ≤ 4611686018427387904) : ∃ y t, s ≤ t ∧ t ≤ s + 1048576 ∧ Evt (fun k => laws_markInt64S.f k x s) (t, y) := by
  have hn := h.1
  have hc : (x.length : Int) * 1 ≤ 1048576 := by omega
  obtain ⟨ys, t, a1, a2, a3, a4, a5⟩ := mark_held (fun k a s i => laws_markInt64S.l0 k a s i) (fun a k s i => none) False 1 (by omega) tr (fun acc s i hi hp h1 h2 => by
    have w0 : wrap64 (s + 1) = s + 1 := wrap64_in _ (by omega)
    refine ⟨s, (s + 1), by omega, by omega, fun r hr => ?_, fun hB ys hi hy r hr => ?_⟩
    · simp only [laws_markInt64S.l0_s, int_lt hi, cond_true, idx_ok hi, chkT, Int.toNat_natCast, List.length_set, gt_set hi, List.set_set, w0]
      exact hr
    · exact hB.elim) (fun acc s => by
    simp only [laws_markInt64S.l0_s]
    exact Evt.f int_nlt (Evt.self _)) (fun h => h.elim) x (by omega) h.2 s h1 (by omega)
  exact ⟨ys, t, a2, by omega, Evt.bind a4 (Evt.self _)⟩
theorem markOutS_mh (x : List Out) (h : (Lm smOut) x) (s : Int) (h1 : 1 ≤ s) (h2 : s + 1099514773504 ≤ 4611686018427387904) : ∃ y t, s ≤ t ∧ t ≤ s + 1099514773504 ∧ Evt (fun k => laws_markOutS.f k x s) (t, y) := by
  have hn := h.1
  have hc : (x.length : Int) * 1048579 ≤ 1099514773504 := by omega
  obtain ⟨ys, t, a1, a2, a3, a4, a5⟩ := mark_held (fun k a s i => laws_markOutS.l0 k a s i) (fun a k s i => none) False 1048579 (by omega) smOut (fun acc s i hi hp h1 h2 => by
    have w0 : wrap64 (s + 1) = s + 1 := wrap64_in _ (by omega)
    obtain ⟨y1, t1, l1, u1, e1⟩ := markInt64S_mh (gt acc (i : Int)).fRule.fKeys hp.2.1 (s + 1) (by omega) (by omega)
    have n1 : decide (t1 < 0) = false := by simp; omega
    have w2 : wrap64 (t1 + 1) = t1 + 1 := wrap64_in _ (by omega)
    have w3 : wrap64 (t1 + 1 + 1) = t1 + 1 + 1 := wrap64_in _ (by omega)
    have h3 : ((3 : Int) != 0) = true := by decide
    refine ⟨⟨s, ⟨y1, t1, t1 + 1⟩⟩, t1 + 1 + 1, by omega, by omega, fun r hr => ?_, fun hB ys hi hy r hr => ?_⟩
    · simp only [laws_markOutS.l0_s, int_lt hi, cond_true, cond_false, idx_ok hi, chkT, Int.toNat_natCast, h3, w0, w2, w3]
      refine Evt.bind e1 ?_
      try simp only [int_lt hi, cond_true, cond_false, idx_ok hi, chkT, Int.toNat_natCast, h3, w0, w2, w3]
      exact hr
    · exact hB.elim) (fun acc s => by
    simp only [laws_markOutS.l0_s]
    exact Evt.f int_nlt (Evt.self _)) (fun h => h.elim) x (by omega) h.2 s h1 (by omega)
  exact ⟨ys, t, a2, by omega, Evt.bind a4 (Evt.self _)⟩
theorem markTx_mh (x : Tx) (h : smTx x) (s : Int) (h1 : 1 ≤ s) (h2 : s + 1099516870658 ≤ 4611686018427387904) : ∃ y0_0 y1_0 t, s ≤ t ∧ t ≤ s + 1099516870658 ∧ Evt (fun k => laws_markTx.f k x s) (t, y0_0, y1_0) := by
  obtain ⟨y0_0, t0, l0, u0, e0⟩ := markRefS_mh x.fIns h.2.2.1 s (by omega) (by omega)
  obtain ⟨y1_0, t1, l1, u1, e1⟩ := markOutS_mh x.fOuts h.2.2.2 t0 (by omega) (by omega)
  exact ⟨y0_0, y1_0, t1, by omega, by omega, (Evt.bind e0 (Evt.bind e1 (Evt.self _)))⟩
theorem markMembersResult_mh (x : MembersResult) (h : smMembersResult x) (s : Int) (h1 : 1 ≤ s) (h2 : s + 3145729 ≤ 4611686018427387904) : ∃ y0_0 t, s ≤ t ∧ t ≤ s + 3145729 ∧ Evt (fun k => laws_markMembersResult.f k x s) (t, y0_0) ∧ Evt (fun k => laws_heldMembersResult.f k (⟨x.fCode, y0_0⟩ : MembersResult) s) t := by
  obtain ⟨y0_0, t0, l0, u0, e0, g0⟩ := markMemberS_mh x.fMembers h.2 s (by omega) (by omega)
  exact ⟨y0_0, t0, by omega, by omega, (Evt.bind e0 (Evt.self _)), (Evt.bind g0 (Evt.f (by simp; omega) (Evt.self _)))⟩
theorem refs_same (r : Ref) : impl_isRef_v r = spec_l3Ref_v r := by simp only [impl_isRef_v, spec_l3Ref_v, impl_isId_v, impl_within_v, spec_l1In_v]
theorem contains_ref (xs : List Ref) (x : Ref) : slices_Contains_impl_Ref_v xs x = spec_l3Among_v xs x := by
  have e : (fun i : Nat => (x.fTx == (gt xs (i : Int)).fTx) && (x.fAt == (gt xs (i : Int)).fAt)) = fun i : Nat => ((gt xs (i : Int)).fTx == x.fTx) && ((gt xs (i : Int)).fAt == x.fAt) := by funext i; rw [BEq.comm (a := x.fTx), BEq.comm (a := x.fAt)]
  rw [slices_Contains_impl_Ref_any, e]; simp only [spec_l3Among_v, found_any, bifb]
theorem membersFault_same (x0 : List Member) : impl_MembersFault_v x0 = spec_l6Fault_v x0 := by
  have e2 : (List.range' 0 (x0.length - 0)).findSome? (fun (i3 : Nat) => (bif (slices_ContainsFunc_impl_Member_v (x0.take ((i3 : Int)).toNat) (gt x0 (i3 : Int))) then (some (7 : Int)) else none)) =
      (List.range' 0 (x0.length - 0)).findSome? (fun (i3 : Nat) => (onO ((List.range' 0 (i3 - 0)).findSome? (fun (i4 : Nat) => (bif ((((gt x0 (i4 : Int)).fRef.fTx) == ((gt x0 (i3 : Int)).fRef.fTx)) && (((gt x0 (i4 : Int)).fRef.fAt) == ((gt x0 (i3 : Int)).fRef.fAt))) then (some (7 : Int)) else none))) (fun r => (some r)) none)) := by
    refine fs_congr fun i hi => ?_
    have hl : i ≤ x0.length := Nat.le_of_lt (in_range hi)
    have hn : ((i : Int)).toNat = i := by simp
    rw [found_any, hn]
    rw [slices_ContainsFunc_impl_Member_any]
    simp only [impl_MembersFault_1_v]
    rw [any_take hl (fun y => (y.fRef.fTx == (gt x0 (i : Int)).fRef.fTx) && (y.fRef.fAt == (gt x0 (i : Int)).fRef.fAt))]
  simp only [impl_MembersFault_v, spec_l6Fault_v, e2, refs_same, impl_isKey_v, spec_l1Key_v, impl_within_v, spec_l1In_v]
theorem txFault_same (x0 : Tx) : impl_TxFault_v x0 = spec_l3Fault_v x0 := by
  have e1 : ∀ n : Int, impl_TxFault_1_v n = !(spec_l1In_v n 1 4) := fun n => rng1
  have e2 : ∀ x : Out, (bif ((impl_outFault_v x) != 0) then (some (impl_outFault_v x)) else none) = (bif !(spec_l1In_v x.fValue 1 1000000) then (some 3) else (bif ((spec_l2Fault_v x.fRule) != 0) then (some (spec_l2Fault_v x.fRule)) else none)) := by
    intro x
    have e : impl_outFault_v x = bif !(spec_l1In_v x.fValue 1 1000000) then 3 else spec_l2Fault_v x.fRule := by simp only [impl_outFault_v, ruleFault_same, impl_within_v, spec_l1In_v]
    rw [e]
    cases spec_l1In_v x.fValue 1 1000000 <;> rfl
  have e3 : ∀ n a b : Int, impl_within_v n a b = spec_l1In_v n a b := fun _ _ _ => rfl
  have e4 : ∀ n : Int, impl_isKey_v n = spec_l1Key_v n := fun _ => rfl
  simp only [impl_TxFault_v, spec_l3Fault_v, spec_l3Outs_v, e1, e2, e3, e4, refs_same, contains_ref]
  simp only [bne]
  generalize spec_l1In_v (x0.fIns.length : Int) 1 4 = a
  generalize spec_l1In_v (x0.fOuts.length : Int) 1 4 = b
  generalize spec_l1In_v x0.fKind 0 2 = c
  generalize spec_l1Key_v x0.fMember = d
  generalize (x0.fKind == 0) = e
  generalize (x0.fMember == 0) = f
  cases a <;> cases b <;> cases c <;> cases d <;> cases e <;> cases f <;> rfl
theorem compare_eq (a b : Int) : cmp_Compare_int64_v a b = bif decide (a < b) then -1 else bif decide (b < a) then 1 else 0 := by
  have e : ∀ x, cmp_isNaN_int64_v x = false := fun x => by simp [cmp_isNaN_int64_v]
  simp only [cmp_Compare_int64_v, e]; rfl
theorem rising (f : Nat → Int) (n : Nat) (h : ∀ i, i + 1 < n → f i < f (i + 1)) : ∀ d a, a + d + 1 < n → f a < f (a + d + 1)
  | 0, a, hb => h a hb
  | d + 1, a, hb => by
    have h1 := rising f n h d a (by omega)
    have h2 := h (a + d + 1) hb
    have e : a + (d + 1) + 1 = a + d + 1 + 1 := by omega
    rw [e]; omega
theorem compare_lt (a b : Int) : cmp_Compare_int64_v a b < 0 ↔ a < b := by
  rw [compare_eq]
  by_cases h : a < b
  · simp [h]
  · by_cases h2 : b < a <;> simp [h, h2]
theorem compare_zero (a b : Int) : cmp_Compare_int64_v a b = 0 ↔ a = b := by
  rw [compare_eq]
  by_cases h : a < b
  · simp [h]; omega
  · by_cases h2 : b < a
    · simp [h, h2]; omega
    · simp [h, h2]; omega
theorem two_ne (a b : Bool) : (bif a then some (3 : Int) else bif b then some 1 else none) ≠ some 0 := by cases a <;> cases b <;> decide
theorem two_none {a b : Bool} (h : (bif a then some (3 : Int) else bif b then some 1 else none) = none) : b = false := by cases a <;> cases b <;> first | rfl | cases h
theorem members_step (x0 : List Member) (hl : x0.length ≤ 1048576) (h : spec_l6Fault_v x0 = 0) : ∀ i, i + 1 < x0.length → (gt x0 (i : Int)).fKey < (gt x0 ((i + 1 : Nat) : Int)).fKey := by
  intro i hi
  unfold spec_l6Fault_v at h
  cases hc : decide (8 < (x0.length : Int))
  · rw [hc] at h
    obtain ⟨h1, _⟩ := onO_zero h (fun i => two_ne _ _)
    have h2 := two_none (fs_all h1 (i + 1) hi)
    have e : wrap64 (((i + 1 : Nat) : Int) - 1) = (i : Int) := by have := wrap64_in (((i + 1 : Nat) : Int) - 1) (by omega); rw [this]; omega
    rw [e] at h2
    simp only [Bool.and_eq_false_iff, decide_eq_false_iff_not] at h2
    omega
  · rw [hc] at h; exact absurd (show (2 : Int) = 0 from h) (by decide)
theorem members_lt (x0 : List Member) (hl : x0.length ≤ 1048576) (h : spec_l6Fault_v x0 = 0) (a b : Nat) (hab : a < b) (hb : b < x0.length) : (gt x0 (a : Int)).fKey < (gt x0 (b : Int)).fKey := by
  have := rising (fun i => (gt x0 (i : Int)).fKey) x0.length (members_step x0 hl h) (b - a - 1) a (by omega)
  have e : a + (b - a - 1) + 1 = b := by omega
  rw [e] at this
  exact this
theorem findMember_at (x0 : List Member) (x1 : Int) (hl : x0.length ≤ 1048576) (h : spec_l6Fault_v x0 = 0) : spec_l6At_v x0 x1 = bif (impl_findMember_v x0 x1).2 then (impl_findMember_v x0 x1).1 else -1 := by
  have hc0 : ∀ i : Nat, impl_findMember_1_v (gt x0 (i : Int)) x1 = 0 ↔ (gt x0 (i : Int)).fKey = x1 := fun i => compare_zero _ _
  have hcl : ∀ i : Nat, impl_findMember_1_v (gt x0 (i : Int)) x1 < 0 ↔ (gt x0 (i : Int)).fKey < x1 := fun i => compare_lt _ _
  have key := bs_find x0.length (fun i => impl_findMember_1_v (gt x0 (i : Int)) x1) (fun a b hab hb hlt => by
    rw [hcl] at hlt ⊢
    rcases Nat.lt_or_eq_of_le hab with h1 | h1
    · have := members_lt x0 hl h a b h1 hb; omega
    · subst h1; exact hlt) (fun a b hab hb h0 => by
    rw [hc0] at h0
    rw [hcl]
    have := members_lt x0 hl h a b hab hb; omega) default
  have e : (fun i : Nat => bif ((gt x0 (i : Int)).fKey == x1) then some (i : Int) else none) = fun i : Nat => bif impl_findMember_1_v (gt x0 (i : Int)) x1 == 0 then some (i : Int) else none := by
    funext i
    have : ((gt x0 (i : Int)).fKey == x1) = (impl_findMember_1_v (gt x0 (i : Int)) x1 == 0) := by
      rw [Bool.eq_iff_iff, beq_iff_eq, beq_iff_eq]; exact (hc0 i).symm
    rw [this]
  show onO ((List.range' 0 (x0.length - 0)).findSome? (fun i : Nat => bif ((gt x0 (i : Int)).fKey == x1) then some (i : Int) else none)) (fun r => r) (-1) = _
  rw [e, key]
  show onO (bif (impl_findMember_v x0 x1).2 then some (impl_findMember_v x0 x1).1 else none) _ _ = _
  cases (impl_findMember_v x0 x1).2 <;> rfl
def MRise (xs : List Member) : Prop := xs.Pairwise (fun a b => a.fKey < b.fKey)
theorem MRise.of {xs : List Member} (hl : xs.length ≤ 1048576) (h : spec_l6Fault_v xs = 0) : MRise xs := by
  unfold MRise
  rw [List.pairwise_iff_getElem]
  intro i j hi hj hij
  have := members_lt xs hl h i j hij hj
  rw [gt_eq (by simpa using hi), gt_eq (by simpa using hj)] at this
  simpa using this
theorem members_len {xs : List Member} (h : spec_l6Fault_v xs = 0) : xs.length ≤ 8 := by
  unfold spec_l6Fault_v at h
  cases hc : decide (8 < (xs.length : Int))
  · have := of_decide_eq_false hc; omega
  · rw [hc] at h; exact absurd (show (2 : Int) = 0 from h) (by decide)
theorem l6At_any (xs : List Member) (key : Int) : decide (0 ≤ spec_l6At_v xs key) = xs.any (fun m => m.fKey == key) := by
  unfold spec_l6At_v
  rw [idx_any]
  rw [Bool.eq_iff_iff, List.any_eq_true, List.any_eq_true]
  constructor
  · rintro ⟨i, hi, hp⟩
    have hlt : i < xs.length := by rw [List.mem_range'_1] at hi; omega
    exact ⟨_, gt_mem hlt, hp⟩
  · rintro ⟨m, hm, hp⟩
    obtain ⟨i, hi, rfl⟩ := List.getElem_of_mem hm
    refine ⟨i, by rw [List.mem_range'_1]; omega, ?_⟩
    rw [gt_eq (by simpa using hi)]
    simpa using hp
theorem find_rise (xs : List Member) (hr : MRise xs) (key : Int) : ∃ p : Nat, (impl_findMember_v xs key).1 = (p : Int) ∧ p ≤ xs.length ∧ (∀ m ∈ xs.take p, m.fKey < key) ∧ (∀ m ∈ xs.drop p, key ≤ m.fKey) ∧ (impl_findMember_v xs key).2 = xs.any (fun m => m.fKey == key) := by
  have hc0 : ∀ i : Nat, impl_findMember_1_v (gt xs (i : Int)) key = 0 ↔ (gt xs (i : Int)).fKey = key := fun i => compare_zero _ _
  have hcl : ∀ i : Nat, impl_findMember_1_v (gt xs (i : Int)) key < 0 ↔ (gt xs (i : Int)).fKey < key := fun i => compare_lt _ _
  have hg : ∀ a b : Nat, a < b → b < xs.length → (gt xs (a : Int)).fKey < (gt xs (b : Int)).fKey := fun a b hab hb => by
    have := List.pairwise_iff_getElem.1 hr a b (by omega) hb hab
    rw [gt_eq (by simp; omega), gt_eq (by simpa using hb)]
    simpa using this
  obtain ⟨h1, h2, h3⟩ := bsI_spec (fun i => decide (impl_findMember_1_v (gt xs (i : Int)) key < 0)) xs.length (fun a b hab hb hq => by
    have hq' := (hcl b).1 (of_decide_eq_true hq)
    refine decide_eq_true ((hcl a).2 ?_)
    rcases Nat.lt_or_eq_of_le hab with h | h
    · have := hg a b h hb; omega
    · subst h; exact hq')
  refine ⟨_, rfl, h1, fun m hm => ?_, fun m hm => ?_, ?_⟩
  · rw [List.mem_take_iff_getElem] at hm
    obtain ⟨i, hi, rfl⟩ := hm
    have := (hcl i).1 (of_decide_eq_true (h2 i (by omega)))
    rw [gt_eq (by simp; omega)] at this
    simpa using this
  · rw [List.mem_drop_iff_getElem] at hm
    obtain ⟨i, hi, rfl⟩ := hm
    have h4 := of_decide_eq_false (h3 _ (Nat.le_add_right _ i) (by omega))
    rw [hcl] at h4
    rw [gt_eq (by simp; omega)] at h4
    simp only [Int.toNat_natCast] at h4
    omega
  · generalize hp : bsI (fun i => decide (impl_findMember_1_v (gt xs (i : Int)) key < 0)) xs.length 0 xs.length = p at h1 h2 h3
    have e : (impl_findMember_v xs key).2 = (decide ((p : Int) < (xs.length : Int)) && ((bif decide ((p : Int) < (xs.length : Int)) then impl_findMember_1_v (gt xs (p : Int)) key else default) == 0)) := by subst hp; rfl
    rw [e, Bool.eq_iff_iff, Bool.and_eq_true, decide_eq_true_eq, List.any_eq_true]
    constructor
    · rintro ⟨hlt, hz⟩
      rw [decide_eq_true hlt, cond_true, beq_iff_eq, hc0] at hz
      exact ⟨_, gt_mem (show p < xs.length by omega), by simpa using hz⟩
    · rintro ⟨m, hm, hk⟩
      obtain ⟨i, hi, rfl⟩ := List.getElem_of_mem hm
      have hk' : (gt xs (i : Int)).fKey = key := by rw [gt_eq (by simpa using hi)]; simpa using hk
      have hpi : p ≤ i := by
        rcases Nat.lt_or_ge i p with h | h
        · have := (hcl i).1 (of_decide_eq_true (h2 i h)); omega
        · exact h
      have hip : p = i := by
        rcases Nat.lt_or_eq_of_le hpi with h | h
        · have h5 := hg p i h hi
          have h6 := of_decide_eq_false (h3 p (Nat.le_refl _) (by omega))
          rw [hcl] at h6; omega
        · exact h
      subst hip
      have hlt : (p : Int) < (xs.length : Int) := by omega
      refine ⟨hlt, ?_⟩
      rw [decide_eq_true hlt, cond_true, beq_iff_eq, hc0]; exact hk'
theorem jl_app (key : Int) : ∀ (A B : List Member) (i a : Nat), jl key (A ++ B) i a = jl key B (i + A.length) (jl key A i a)
  | [], B, i, a => rfl
  | m :: A, B, i, a => by
    show jl key (A ++ B) (i + 1) _ = jl key B (i + (A.length + 1)) (jl key A (i + 1) _)
    rw [jl_app key A B, show i + 1 + A.length = i + (A.length + 1) by omega]
theorem jl_less (key : Int) : ∀ (A : List Member) (i : Nat), (∀ m ∈ A, m.fKey < key) → jl key A i i = i + A.length
  | [], i, _ => rfl
  | m :: A, i, h => by
    show jl key A (i + 1) (bif decide (m.fKey < key) then i + 1 else i) = _
    rw [decide_eq_true (h m (by simp)), cond_true, jl_less key A (i + 1) (fun x hx => h x (by simp [hx]))]
    simp only [List.length_cons]; omega
theorem jl_more (key : Int) : ∀ (B : List Member) (i a : Nat), (∀ m ∈ B, key ≤ m.fKey) → jl key B i a = a
  | [], i, a, _ => rfl
  | m :: B, i, a, h => by
    show jl key B (i + 1) (bif decide (m.fKey < key) then i + 1 else a) = _
    have : ¬ m.fKey < key := by have := h m (by simp); omega
    rw [decide_eq_false this, cond_false, jl_more key B (i + 1) a (fun x hx => h x (by simp [hx]))]
theorem jl_at {xs : List Member} {key : Int} {p : Nat} (hp : p ≤ xs.length) (h1 : ∀ m ∈ xs.take p, m.fKey < key) (h2 : ∀ m ∈ xs.drop p, key ≤ m.fKey) : jl key xs 0 0 = p := by
  have e := List.take_append_drop p xs
  have : jl key (xs.take p ++ xs.drop p) 0 0 = p := by
    rw [jl_app, jl_less key _ 0 h1, jl_more key _ _ _ h2, List.length_take]; omega
  rw [e] at this; exact this
/-- The one of a key, taken out. -/
theorem del_key {xs : List Member} (hr : MRise xs) (hl : xs.length ≤ 1048576) (key : Int) (h : (impl_findMember_v xs key).2 = true) :
    slices_Delete_impl_Member_v xs (impl_findMember_v xs key).1 (wrap64 ((impl_findMember_v xs key).1 + 1)) = xs.filter (fun m => !(m.fKey == key)) := by
  obtain ⟨p, hp, hle, h1, h2, h3⟩ := find_rise xs hr key
  rw [h3, List.any_eq_true] at h
  obtain ⟨m, hm, hk⟩ := h
  have hk' : m.fKey = key := by simpa using hk
  have hmd : m ∈ xs.drop p := by
    rw [← List.take_append_drop p xs] at hm
    rcases List.mem_append.1 hm with h | h
    · have := h1 m h; omega
    · exact h
  have hlt : p < xs.length := by
    rcases Nat.lt_or_ge p xs.length with h | h
    · exact h
    · rw [List.drop_of_length_le h] at hmd; cases hmd
  have ed : xs.drop p = xs[p] :: xs.drop (p + 1) := List.drop_eq_getElem_cons hlt
  have hrd : (xs[p] :: xs.drop (p + 1)).Pairwise (fun a b => a.fKey < b.fKey) := ed ▸ List.Pairwise.sublist (List.drop_sublist p xs) hr
  have hpk : xs[p].fKey = key := by
    have h4 := h2 xs[p] (by rw [ed]; exact List.mem_cons_self)
    rw [ed] at hmd
    rcases List.mem_cons.1 hmd with h | h
    · rw [← h]; exact hk'
    · have := (List.pairwise_cons.1 hrd).1 m h; omega
  have ew : wrap64 ((p : Int) + 1) = ((p + 1 : Nat) : Int) := by rw [wrap64_in _ (by omega)]; omega
  rw [hp, ew]
  unfold slices_Delete_impl_Member_v
  rw [beq_false_of_ne (by omega)]
  simp only [Int.toNat_natCast, cond_false]
  have e := List.take_append_drop p xs
  conv => rhs; rw [← e, ed, List.filter_append, List.filter_cons_of_neg (by simp [hpk])]
  have e1 : (xs.take p).filter (fun m => !(m.fKey == key)) = xs.take p := by
    rw [List.filter_eq_self]
    intro x hx
    have := h1 x hx
    simp; omega
  have e2 : (xs.drop (p + 1)).filter (fun m => !(m.fKey == key)) = xs.drop (p + 1) := by
    rw [List.filter_eq_self]
    intro x hx
    have := (List.pairwise_cons.1 hrd).1 x hx
    simp; omega
  rw [e1, e2]
theorem join_same {out : List Member} (m : Member) (hr : MRise out) (h8 : out.length ≤ 8) : tmJoin out m = spec_l6Join_v out m := by
  obtain ⟨p, hp, hle, h1, h2, h3⟩ := find_rise out hr m.fKey
  unfold tmJoin spec_l6Join_v
  rw [l6At_any, ← h3, slices_ContainsFunc_impl_Member_v2_any]
  have ea : (List.range' 0 (out.length - 0)).any (fun (i0 : Nat) => (impl_takeMembers_2_v (gt out (i0 : Int)) m.fRef)) = out.any (fun x => (x.fRef.fTx == m.fRef.fTx) && (x.fRef.fAt == m.fRef.fAt)) := by
    rw [Bool.eq_iff_iff, List.any_eq_true, List.any_eq_true]
    constructor
    · rintro ⟨i, hi, hq⟩
      have hlt : i < out.length := by rw [List.mem_range'_1] at hi; omega
      exact ⟨_, gt_mem hlt, hq⟩
    · rintro ⟨x, hx, hq⟩
      obtain ⟨i, hi, rfl⟩ := List.getElem_of_mem hx
      refine ⟨i, by rw [List.mem_range'_1]; omega, ?_⟩
      rw [gt_eq (by simpa using hi)]
      exact hq
  rw [ea]
  cases (impl_findMember_v out m.fKey).2
  · simp only [Bool.not_false, cond_true, Bool.false_or, cond_false]
    cases out.any (fun x => (x.fRef.fTx == m.fRef.fTx) && (x.fRef.fAt == m.fRef.fAt))
    · have e8 : ((out.length : Int) == 8) = decide (8 ≤ (out.length : Int)) := by
        rw [Bool.eq_iff_iff, beq_iff_eq, decide_eq_true_eq]; omega
      rw [e8, hp, jl_at hle h1 h2]
      simp only [Int.toNat_natCast]
    · simp only [cond_true]
  · simp only [Bool.true_or, cond_true]
theorem take_same (x0 : List Member) (x1 : Tx) (x2 : Int) (hl : x0.length ≤ 1048576) (h : spec_l6Fault_v x0 = 0) (hid : impl_isId_v x2 = true) : impl_takeMembers_v x0 x1 x2 = spec_l6Take_v x0 x1 x2 := by
  have hr := MRise.of hl h
  have h8 := members_len h
  have hk1 : ∀ b : List Member, slices_DeleteFunc_impl_Member_v b x1 = b.filter (fun m => !(spec_l3Among_v x1.fIns m.fRef)) := fun b => by
    unfold slices_DeleteFunc_impl_Member_v
    congr 1
    funext m
    unfold mKeep impl_takeMembers_1_v
    rw [contains_ref]
  have fin : ∀ b : List Member, tmBase x0 x1 = some b → b.filter (fun m => !(spec_l3Among_v x1.fIns m.fRef)) = x0.filter (l6Keep x1) → ((x1.fKind == 2) && decide ((bif x1.fKind == 2 then spec_l6At_v x0 x1.fMember else default) < 0)) = false → impl_takeMembers_v x0 x1 x2 = spec_l6Take_v x0 x1 x2 := fun b hb hf hc => by
    unfold impl_takeMembers_v spec_l6Take_v
    rw [hid, hb, hc]
    simp only [Bool.not_true, cond_false, hk1, hf]
    cases x1.fKind != 1
    · simp only [cond_false]
      exact join_same _ (List.Pairwise.sublist List.filter_sublist hr) (Nat.le_trans (List.length_filter_le _ _) h8)
    · simp only [cond_true]
  cases hq : x1.fKind == 2
  · refine fin x0 (by unfold tmBase; rw [hq]; rfl) ?_ (by rw [hq]; rfl)
    congr 1
    funext m
    unfold l6Keep
    rw [hq]
    simp
  · have hat : decide (spec_l6At_v x0 x1.fMember < 0) = !(impl_findMember_v x0 x1.fMember).2 := by
      obtain ⟨p, hp, hle, h1, h2, h3⟩ := find_rise x0 hr x1.fMember
      rw [h3, ← l6At_any, Bool.eq_iff_iff, decide_eq_true_eq, Bool.not_eq_true', decide_eq_false_iff_not]; omega
    cases hf : (impl_findMember_v x0 x1.fMember).2
    · have hb : tmBase x0 x1 = none := by unfold tmBase; rw [hq, hf]; rfl
      unfold impl_takeMembers_v spec_l6Take_v
      rw [hid, hb, hq]
      simp only [cond_true, hat, hf]
      rfl
    · refine fin _ (by unfold tmBase; rw [hq, hf]; rfl) ?_ (by rw [hq]; simp only [cond_true, hat, hf]; rfl)
      rw [del_key hr hl _ hf, List.filter_filter]
      congr 1
      funext m
      unfold l6Keep
      rw [hq, Bool.true_and, Bool.and_comm]
theorem l6Take_code (x0 : List Member) (x1 : Tx) (x2 : Int) (h : (spec_l6Take_v x0 x1 x2).2 ≠ 0) : (spec_l6Take_v x0 x1 x2).1 = [] := by
  unfold spec_l6Take_v spec_l6Join_v at *
  revert h
  cases (x1.fKind == 2) && decide ((bif x1.fKind == 2 then spec_l6At_v x0 x1.fMember else default) < 0)
  · cases x1.fKind != 1
    · simp only [cond_false]
      cases decide (0 ≤ spec_l6At_v (x0.filter (l6Keep x1)) x1.fMember)
      · simp only [cond_false]
        cases (x0.filter (l6Keep x1)).any (fun m => (m.fRef.fTx == x2) && (m.fRef.fAt == 0))
        · simp only [cond_false]
          cases decide (8 ≤ ((x0.filter (l6Keep x1)).length : Int))
          · intro h; exact absurd rfl h
          · intro _; rfl
        · intro _; rfl
      · intro _; rfl
    · intro h; exact absurd rfl h
  · intro _; rfl
theorem isId_in (x2 : Int) : impl_isId_v x2 = spec_l1In_v x2 1 60 := by simp only [impl_isId_v, impl_within_v, spec_l1In_v]
theorem takeMembers_same (x0 : List Member) (x1 : Tx) (x2 : Int) (h0 : Lm smMember x0) : impl_TakeMembers_v x0 x1 x2 = spec_TakeMembers_v x0 x1 x2 := by
  unfold impl_TakeMembers_v spec_TakeMembers_v
  rw [membersFault_same, txFault_same]
  cases hf : (spec_l6Fault_v x0) != 0
  · simp only [cond_false]
    cases hg : (spec_l3Fault_v x1) != 0
    · simp only [cond_false]
      cases hi : spec_l1In_v x2 1 60
      · have hid : impl_isId_v x2 = false := by rw [isId_in]; exact hi
        have e : impl_takeMembers_v x0 x1 x2 = ([], 3) := by unfold impl_takeMembers_v; rw [hid]; rfl
        rw [e]; rfl
      · have hid : impl_isId_v x2 = true := by rw [isId_in]; exact hi
        rw [take_same x0 x1 x2 h0.1 (by simpa using hf) hid]
        simp only [Bool.not_true, cond_false]
        cases hz : (spec_l6Take_v x0 x1 x2).2 != 0
        · have : (spec_l6Take_v x0 x1 x2).2 = 0 := by simpa using hz
          rw [this]; rfl
        · have := l6Take_code x0 x1 x2 (by simpa using hz)
          rw [this]; rfl
    · simp only [cond_true]
  · simp only [cond_true]
theorem l6Take_sm (x0 : List Member) (x1 : Tx) (x2 : Int) (h0 : Lm smMember x0) : Lm smMember (spec_l6Take_v x0 x1 x2).1 := by
  have hz : Lm smMember ([] : List Member) := ⟨by simp, fun x hx => by cases hx⟩
  have hf : Lm smMember (x0.filter (l6Keep x1)) := Lm_sub h0 List.filter_sublist
  unfold spec_l6Take_v
  cases (x1.fKind == 2) && decide ((bif x1.fKind == 2 then spec_l6At_v x0 x1.fMember else default) < 0)
  · cases x1.fKind != 1
    · unfold spec_l6Join_v
      simp only [cond_false]
      cases decide (0 ≤ spec_l6At_v (x0.filter (l6Keep x1)) x1.fMember)
      · cases (x0.filter (l6Keep x1)).any (fun m => (m.fRef.fTx == x2) && (m.fRef.fAt == 0))
        · cases h8 : decide (8 ≤ ((x0.filter (l6Keep x1)).length : Int))
          · have h9 := of_decide_eq_false h8
            refine ⟨?_, fun x _ => by repeat' (first | trivial | constructor)⟩
            show (List.take _ (x0.filter (l6Keep x1)) ++ [_] ++ List.drop _ (x0.filter (l6Keep x1))).length ≤ _
            simp; omega
          · exact hz
        · exact hz
      · exact hz
    · exact hf
  · exact hz
theorem smr_FnExactTakeMembers (x0 : List Member) (h0 : Lm smMember x0) (o0 : Lok okMember x0) (x1 : Tx) (h1 : smTx x1) (o1 : okTx x1) (x2 : Int) (o2 : iOk .i64 x2) : smMembersResult (spec_TakeMembers_v x0 x1 x2) := by
  have hl : ∀ (a : Int), smMembersResult ⟨a, ([] : List Member)⟩ := fun a => ⟨trivial, by simp, fun x hx => by cases hx⟩
  unfold spec_TakeMembers_v
  cases (spec_l6Fault_v x0) != 0
  · cases (spec_l3Fault_v x1) != 0
    · cases !(spec_l1In_v x2 1 60)
      · cases (spec_l6Take_v x0 x1 x2).2 != 0
        · exact ⟨trivial, l6Take_sm x0 x1 x2 h0⟩
        · exact hl _
      · exact hl _
    · exact hl _
  · exact hl _
theorem same_FnExactTakeMembers (x0 : List Member) (h0 : Lm smMember x0) (o0 : Lok okMember x0) (x1 : Tx) (h1 : smTx x1) (o1 : okTx x1) (x2 : Int) (o2 : iOk .i64 x2) : impl_TakeMembers_v x0 x1 x2 = spec_TakeMembers_v x0 x1 x2 := takeMembers_same x0 x1 x2 h0
end Go.Proofs.Ytbbcabpnkdilgaa.Zk
namespace Go.Proofs.Ytbbcabpnkdilgaa.Pure
open Go Go.Proofs.Ytbbcabpnkdilgaa.Zk
theorem FnExactTakeMembers (x0 : List Zk.Member) (x1 : Zk.Tx) (x2 : Int) (o_x0 : (Lok okMember) x0) (o_x1 : okTx x1) (o_x2 : (iOk .i64) x2) : ∃ k, laws_FnExactTakeMembers.f k x0 x1 x2 = some true := by
  refine Evt.get ?_
  obtain ⟨t0, e0, l0, s0⟩ := szMemberS_ev x0 o_x0 1048576 (by omega) (by omega)
  by_cases c0 : t0 < 0
  · exact Evt.bind e0 (Evt.t (by simpa using c0) (Evt.self _))
  refine Evt.bind e0 (Evt.f (by simpa using c0) ?_)
  have m0 := s0 (by omega)
  obtain ⟨t1, e1, l1, s1⟩ := szTx_ev x1 o_x1 t0 (by omega) (by omega)
  by_cases c1 : t1 < 0
  · exact Evt.bind e1 (Evt.t (by simpa using c1) (Evt.self _))
  refine Evt.bind e1 (Evt.f (by simpa using c1) ?_)
  have m1 := s1 (by omega)
  refine Evt.bind (toMemberS_ev x0 (m0)) ?_
  refine Evt.bind (toTx_ev x1 (m1)) ?_
  refine Evt.bind (spec_TakeMembers_ev x0 x1 x2 (m0) (m1)) ?_
  refine Evt.bind (toMemberS_ev x0 (m0)) ?_
  refine Evt.bind (toTx_ev x1 (m1)) ?_
  refine Evt.bind ((impl_TakeMembers_ev x0 x1 x2 (m0) (m1)).to (same_FnExactTakeMembers x0 (m0) o_x0 x1 (m1) o_x1 x2 o_x2)) ?_
  refine Evt.bind (eqMembersResult_ev _ (smr_FnExactTakeMembers x0 (m0) o_x0 x1 (m1) o_x1 x2 o_x2)) (Evt.f rfl ?_)
  refine Evt.bind (toMemberS_ev x0 (m0)) ?_
  refine Evt.bind (eqMemberS_ev _ (m0)) (Evt.f rfl ?_)
  refine Evt.bind (toTx_ev x1 (m1)) ?_
  refine Evt.bind (eqTx_ev _ (m1)) (Evt.f rfl ?_)
  obtain ⟨y2_0, t2, l2, u2, e2, g2⟩ := markMemberS_mh x0 m0 1 (by omega) (by omega)
  refine Evt.bind e2 ?_
  dsimp only
  obtain ⟨y3_0, y3_1, t3, l3, u3, e3⟩ := markTx_mh x1 m1 (t2, y2_0).1 (by omega) (by omega)
  refine Evt.bind e3 ?_
  dsimp only
  refine Evt.bind (Evt.t (by simp; omega) (eqMembersResult_ev _ (smr_FnExactTakeMembers x0 (m0) o_x0 x1 (m1) o_x1 x2 o_x2))) (Evt.f (by simp; omega) ?_)
  obtain ⟨y4_0, t4, l4, u4, e4, g4⟩ := markMembersResult_mh (spec_TakeMembers_v x0 x1 x2) (smr_FnExactTakeMembers x0 (m0) o_x0 x1 (m1) o_x1 x2 o_x2) 1 (by omega) (by omega)
  refine Evt.bind e4 ?_
  dsimp only
  refine Evt.bind g4 ?_
  refine Evt.f (by simp; try omega) ?_
  refine Evt.f (by simp; try omega) ?_
  refine Evt.bind (toMemberS_ev x0 (m0)) ?_
  refine Evt.bind (toTx_ev x1 (m1)) ?_
  refine Evt.bind ((impl_TakeMembers_ev x0 x1 x2 (m0) (m1)).to (same_FnExactTakeMembers x0 (m0) o_x0 x1 (m1) o_x1 x2 o_x2)) ?_
  refine Evt.bind (eqMembersResult_ev _ (smr_FnExactTakeMembers x0 (m0) o_x0 x1 (m1) o_x1 x2 o_x2)) (Evt.f rfl ?_)
  refine Evt.bind g4 ?_
  refine Evt.f (by simp; try omega) ?_
  refine Evt.f (by simp; try omega) ?_
  exact Evt.self _
end Go.Proofs.Ytbbcabpnkdilgaa.Pure
