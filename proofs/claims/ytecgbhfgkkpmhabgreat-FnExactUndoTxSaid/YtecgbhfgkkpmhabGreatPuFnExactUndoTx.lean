/- The plain law of FnExactUndoTx: what the program's function and the reference's compute is the same. No condition. -/
import Derived.Test.YtecgbhfgkkpmhabGreatZkPure
import Derived.Test.YtecgbhfgkkpmhabGreatUndoTxZkOpn
import Derived.Test.YtecgbhfgkkpmhabGreatUndoTxZkF12
namespace Go.Proofs.YtecgbhfgkkpmhabGreat.Zk
open Go Go.RowKit Go.IntWalk
set_option linter.unusedVariables false
set_option linter.unusedSimpArgs false

def szL (n : Nat) (l : Int) : Int := bif decide (wrap64 (l - n) < 0) then -1 else wrap64 (l - n)
theorem szL_ok {n : Nat} {l : Int} (h : decide (szL n l < 0) = false) (h0 : 0 ≤ l) (h1 : l ≤ 1048576) (hn : n ≤ maxLen) : (n : Int) ≤ l ∧ szL n l = l - n := by
  unfold szL at *
  have hn' : n ≤ 9223372036854775807 := by simpa [maxLen] using hn
  have e : wrap64 (l - n) = l - n := by unfold wrap64; omega
  rw [e] at h ⊢
  by_cases hc : l - (n : Int) < 0
  · rw [decide_eq_true hc] at h; cases h
  · rw [decide_eq_false hc]; exact ⟨by omega, rfl⟩
theorem szL_le {n : Nat} {l : Int} (h0 : 0 ≤ l) (h1 : l ≤ 1048576) (hn : n ≤ maxLen) : szL n l ≤ l := by
  unfold szL
  have hn' : n ≤ 9223372036854775807 := by simpa [maxLen] using hn
  have e : wrap64 (l - n) = l - n := by unfold wrap64; omega
  rw [e]
  by_cases hc : l - (n : Int) < 0
  · rw [decide_eq_true hc]; show (-1 : Int) ≤ l; omega
  · rw [decide_eq_false hc]; show l - (n : Int) ≤ l; omega
abbrev tr {α : Type} (x : α) : Prop := True
def Lm {α : Type} (sm : α → Prop) (xs : List α) : Prop := xs.length ≤ 1048576 ∧ ∀ x ∈ xs, sm x
theorem gt_mem {α : Type} [Inhabited α] {xs : List α} {i : Nat} (h : i < xs.length) : gt xs (i : Int) ∈ xs := by
  rw [gt_eq (i := (i : Int)) (by simpa using h)]
  exact List.getElem_mem _
theorem Evt.szl {α : Type} [Inhabited α] {L : Nat → Int → Int → Option (Int ⊕ Int)} {sm : α → Prop} (xs : List α) (hn : xs.length ≤ 9223372036854775807)
    (step : ∀ i, i < xs.length → ∀ left, 0 ≤ left → left ≤ 1048576 → ∃ t, t ≤ left ∧ (0 ≤ t → sm (gt xs (i : Int))) ∧ (t < 0 → Evt (fun k => L k left (i : Int)) (.inl (-1))) ∧ ∀ o, 0 ≤ t → Evt (fun k => L k t (wrap64 ((i : Int) + 1))) o → Evt (fun k => L k left (i : Int)) o)
    (done : ∀ left, Evt (fun k => L k left (xs.length : Int)) (.inr left)) (l : Int) (h0 : 0 ≤ l) (h1 : l ≤ 1048576) :
    ∃ o, Evt (fun k => L k l 0) o ∧ match o with | .inl r => r = -1 | .inr t => 0 ≤ t ∧ t ≤ l ∧ ∀ x ∈ xs, sm x := by
  have key : ∀ d i l, i + d = xs.length → 0 ≤ l → l ≤ 1048576 → ∃ o, Evt (fun k => L k l (i : Int)) o ∧ match o with | .inl r => r = -1 | .inr t => 0 ≤ t ∧ t ≤ l ∧ ∀ j, i ≤ j → j < xs.length → sm (gt xs (j : Int)) := by
    intro d
    induction d with
    | zero =>
      intro i l hi h0 h1
      have e : i = xs.length := by omega
      subst e
      exact ⟨_, done l, h0, by omega, fun j h2 h3 => by omega⟩
    | succ d ih =>
      intro i l hi h0 h1
      obtain ⟨t, a1, a2, a3, a4⟩ := step i (by omega) l h0 h1
      by_cases c : t < 0
      · exact ⟨_, a3 c, rfl⟩
      · obtain ⟨o, b1, b2⟩ := ih (i + 1) t (by omega) (by omega) (by omega)
        refine ⟨o, a4 o (by omega) (by rw [w64 (by omega : i < xs.length) hn]; exact b1), ?_⟩
        cases o with
        | inl r => exact b2
        | inr u =>
          refine ⟨b2.1, by have := b2.2.1; omega, fun j h2 h3 => ?_⟩
          by_cases e : j = i
          · subst e; exact a2 (by omega)
          · exact b2.2.2 j (by omega) h3
  obtain ⟨o, b1, b2⟩ := key xs.length 0 l (by omega) h0 h1
  refine ⟨o, b1, ?_⟩
  cases o with
  | inl r => exact b2
  | inr u =>
    refine ⟨b2.1, b2.2.1, fun x hx => ?_⟩
    obtain ⟨j, hj, e⟩ := List.getElem_of_mem hx
    have := b2.2.2 j (by omega) hj
    rw [gt_eq (i := (j : Int)) (by simpa using hj)] at this
    simpa [e] using this

theorem Evt_t2 {β : Type} {f g nxt : Nat → Option (β ⊕ Unit)} {c : Bool} {v : Option β} (hc : c = true) (h : StE f nxt v) : StE (fun n => bif c then f n else g n) nxt v := by subst hc; exact h
theorem Lm_take {α : Type} {sm : α → Prop} {xs : List α} {n : Nat} (h : Lm sm xs) : Lm sm (xs.take n) := ⟨by have := h.1; rw [List.length_take]; omega, fun x hx => h.2 x (List.mem_of_mem_take hx)⟩
theorem found_any {β γ : Type} (l : List Nat) (p : Nat → Bool) (a : β) (r : β → γ) (c : γ) : onO (l.findSome? fun i => bif p i then some a else none) r c = bif l.any p then r a else c := by
  induction l with
  | nil => rfl
  | cons i l ih =>
    rw [List.findSome?_cons, List.any_cons]
    cases p i
    · simpa using ih
    · rfl
theorem idx_any (l : List Nat) (p : Nat → Bool) : decide (0 ≤ onO (l.findSome? fun i => bif p i then some (i : Int) else none) (fun r => r) (-1)) = l.any p := by
  induction l with
  | nil => rfl
  | cons i l ih =>
    rw [List.findSome?_cons, List.any_cons]
    cases p i
    · simpa using ih
    · simp [onO]
theorem rng1 {a lo hi : Int} : (decide (a < lo) || decide (hi < a)) = !(decide (lo ≤ a) && decide (a ≤ hi)) := by
  by_cases h1 : a < lo
  · have : ¬ lo ≤ a := by omega
    simp [h1, this]
  · have h2 : lo ≤ a := by omega
    by_cases h3 : hi < a
    · have : ¬ a ≤ hi := by omega
      simp [h1, h2, h3, this]
    · have : a ≤ hi := by omega
      simp [h1, h2, h3, this]
theorem fs_congr {β : Type} {l : List Nat} {f g : Nat → Option β} (h : ∀ i ∈ l, f i = g i) : l.findSome? f = l.findSome? g := by
  induction l with
  | nil => rfl
  | cons i l ih => rw [List.findSome?_cons, List.findSome?_cons, h i (by simp), ih fun j hj => h j (by simp [hj])]
theorem in_range {i n : Nat} (h : i ∈ List.range' 0 (n - 0)) : i < n := by
  have := List.mem_range'_1.1 h
  omega
theorem bifb {b : Bool} : (bif b then true else false) = b := by cases b <;> rfl
theorem idx_found {n : Nat} {p : Nat → Bool} (h : 0 ≤ onO ((List.range' 0 (n - 0)).findSome? fun i => bif p i then some (i : Int) else none) (fun r => r) (-1)) : idxOk (onO ((List.range' 0 (n - 0)).findSome? fun i => bif p i then some (i : Int) else none) (fun r => r) (-1)) n = true := by
  have key : ∀ l : List Nat, (∀ i ∈ l, i < n) → 0 ≤ onO (l.findSome? fun i => bif p i then some (i : Int) else none) (fun r => r) (-1) → idxOk (onO (l.findSome? fun i => bif p i then some (i : Int) else none) (fun r => r) (-1)) n = true := by
    intro l
    induction l with
    | nil => intro _ h; exact absurd h (by show ¬ (0 : Int) ≤ -1; omega)
    | cons i l ih =>
      intro hl h
      rw [List.findSome?_cons] at h ⊢
      cases hp : p i
      · rw [hp] at h; exact ih (fun j hj => hl j (List.mem_cons_of_mem _ hj)) h
      · exact idx_ok (hl i (List.mem_cons_self ..))
  exact key _ (fun i hi => in_range hi) h
theorem cut_ok {i n : Nat} (h : i ≤ n) : cutOk (i : Int) n = true := by unfold cutOk; simp; omega
theorem len_eq {a b : Nat} (h : ((a : Int) != (b : Int)) = false) : a = b := by
  by_cases e : a = b
  · exact e
  · have : ((a : Int) != (b : Int)) = true := by simp; omega
    rw [this] at h; cases h

abbrev smRef (x : Ref) : Prop := tr x.fTx ∧ tr x.fAt
abbrev smRule (x : Rule) : Prop := (Lm tr) x.fKeys ∧ tr x.fNeed ∧ tr x.fAfter
abbrev smOut (x : Out) : Prop := tr x.fValue ∧ smRule x.fRule
abbrev smCoin (x : Coin) : Prop := smRef x.fRef ∧ smOut x.fOut ∧ tr x.fHeight ∧ tr x.fMined
abbrev smTx (x : Tx) : Prop := tr x.fKind ∧ tr x.fMember ∧ (Lm smRef) x.fIns ∧ (Lm smOut) x.fOuts
abbrev smCoinsResult (x : CoinsResult) : Prop := tr x.fCode ∧ (Lm smCoin) x.fCoins
theorem chkT {α : Type} (t : Option α) : Zk.chk true t = t := rfl
theorem gt_set {α : Type} [Inhabited α] {xs : List α} {i : Nat} (h : i < xs.length) (a : α) : gt (xs.set i a) (i : Int) = a := by
  rw [gt_eq (by simpa using h)]; simp
theorem mark_held {α : Type} [Inhabited α] (L : Nat → List α → Int → Int → Option (List α × Int)) (H : List α → Nat → Int → Int → Option (Int ⊕ Int)) (B : Prop) (c : Int) (hc : 0 ≤ c) (p : α → Prop)
    (step : ∀ (acc : List α) (s : Int) (i : Nat), i < acc.length → p (gt acc (i : Int)) → 1 ≤ s → s + c ≤ 4611686018427387904 → ∃ y t, s ≤ t ∧ t ≤ s + c ∧ (∀ r, Evt (fun k => L k (acc.set i y) t (wrap64 ((i : Int) + 1))) r → Evt (fun k => L (k + 1) acc s (i : Int)) r) ∧
      (B → ∀ ys : List α, i < ys.length → gt ys (i : Int) = y → ∀ r, Evt (fun k => H ys k t (wrap64 ((i : Int) + 1))) r → Evt (fun k => H ys (k + 1) s (i : Int)) r))
    (doneL : ∀ (acc : List α) (s : Int), Evt (fun k => L (k + 1) acc s (acc.length : Int)) (acc, s)) (doneH : B → ∀ (ys : List α) (s : Int), Evt (fun k => H ys (k + 1) s (ys.length : Int)) (.inr s))
    (xs : List α) (hn : xs.length ≤ 9223372036854775807) (hp : ∀ x ∈ xs, p x) (s : Int) (h1 : 1 ≤ s) (h2 : s + xs.length * c ≤ 4611686018427387904) :
    ∃ ys t, ys.length = xs.length ∧ s ≤ t ∧ t ≤ s + xs.length * c ∧ Evt (fun k => L k xs s 0) (ys, t) ∧ (B → Evt (fun k => H ys k s 0) (.inr t)) := by
  have key : ∀ (d i : Nat) (acc : List α) (s : Int), i + d = xs.length → acc.length = xs.length → (∀ j, i ≤ j → acc[j]? = xs[j]?) → 1 ≤ s → s + d * c ≤ 4611686018427387904 →
      ∃ ys t, ys.length = xs.length ∧ (∀ j, j < i → ys[j]? = acc[j]?) ∧ s ≤ t ∧ t ≤ s + d * c ∧ Evt (fun k => L k acc s (i : Int)) (ys, t) ∧ (B → Evt (fun k => H ys k s (i : Int)) (.inr t)) := by
    intro d
    induction d with
    | zero =>
      intro i acc s hi hl _ h1 h2
      have e : (i : Int) = (acc.length : Int) := by omega
      exact ⟨acc, s, hl, fun _ _ => rfl, by omega, by omega, by rw [e]; exact Evt.s (doneL acc s), fun hB => by rw [e]; exact Evt.s (doneH hB acc s)⟩
    | succ d ih =>
      intro i acc s hi hl hj h1 h2
      have e : ((d + 1 : Nat) : Int) * c = d * c + c := by rw [Int.natCast_add, Int.add_mul]; simp
      have hdc : 0 ≤ (d : Int) * c := Int.mul_nonneg (by omega) hc
      rw [e] at h2
      have hlt : i < acc.length := by omega
      have hpx : p (gt acc (i : Int)) := by
        rw [gt_eq (by simpa using hlt)]
        have h5 := hj i (Nat.le_refl _)
        rw [List.getElem?_eq_getElem hlt] at h5
        exact hp _ (List.mem_of_getElem? h5.symm)
      obtain ⟨y, t1, a1, a2, a3, a4⟩ := step acc s i hlt hpx h1 (by omega)
      obtain ⟨ys, t, b1, b2, b3, b4, b5, b6⟩ := ih (i + 1) (acc.set i y) t1 (by omega) (by simp [hl]) (fun j hj' => by rw [List.getElem?_set_ne (by omega)]; exact hj j (by omega)) (by omega) (by omega)
      have hy : gt ys (i : Int) = y := by
        have h6 := b2 i (by omega)
        rw [List.getElem?_set_self hlt] at h6
        rw [gt_eq (by simp; omega)]
        have h7 : i < ys.length := by omega
        rw [List.getElem?_eq_getElem h7] at h6
        simpa using h6
      refine ⟨ys, t, b1, fun j hj' => ?_, by omega, by rw [e]; omega, Evt.s (a3 _ ?_), fun hB => Evt.s (a4 hB ys (by omega) hy _ ?_)⟩
      · rw [b2 j (by omega), List.getElem?_set_ne (by omega)]
      · rw [w64 (by omega : i < xs.length) hn]; exact b5
      · rw [w64 (by omega : i < xs.length) hn]; exact b6 hB
  obtain ⟨ys, t, a1, _, a3, a4, a5, a6⟩ := key xs.length 0 xs s (by omega) rfl (fun _ _ => rfl) h1 h2
  exact ⟨ys, t, a1, a3, a4, a5, a6⟩
theorem len_bif {α : Type} {c : Bool} {a b : List α} {n : Nat} (h : a.length ≤ n) (k : b.length ≤ n) : (bif c then a else b).length ≤ n := by cases c; exact k; exact h
theorem Evt.gatherL {σ : Type} {L : Nat → List σ → Int → Option (List σ)} (n : Nat) (hn : n ≤ 1048576) (st : List σ → Nat → List σ)
    (len : ∀ i, i < n → ∀ a, a.length ≤ i → (st a i).length ≤ i + 1)
    (step : ∀ i, i < n → ∀ a, a.length ≤ i → ∀ o, Evt (fun k => L k (st a i) (wrap64 ((i : Int) + 1))) o → Evt (fun k => L (k + 1) a (i : Int)) o)
    (done : ∀ (i : Nat) a, n ≤ i → Evt (fun k => L (k + 1) a (i : Int)) a) : Evt (fun k => L k [] 0) ((List.range' 0 (n - 0)).foldl st []) := by
  have key : ∀ d i (a : List σ), (i + d = n ∨ n ≤ i ∧ d = 0) → a.length ≤ i → Evt (fun k => L k a (i : Int)) ((List.range' i d).foldl st a) := by
    intro d
    induction d with
    | zero => intro i a hi _; exact Evt.s (done i a (by omega))
    | succ d ih =>
      intro i a hi ha
      rw [List.range'_succ, List.foldl_cons]
      refine Evt.s (step i (by omega) a ha _ ?_)
      rw [w64 (by omega : i < n) (by omega)]
      exact ih (i + 1) (st a i) (by omega) (len i (by omega) a ha)
  exact key (n - 0) 0 [] (by omega) (by simp)
theorem Lm_gath {α : Type} [Inhabited α] {sm : α → Prop} (x0 : List α) (h : Lm sm x0) (c : Nat → Bool) : Lm sm ((List.range' 0 (x0.length - 0)).foldl (fun ac (i : Nat) => bif c i then ac ++ ([gt x0 (i : Int)] : List α) else ac) ([] : List α)) := by
  have key : ∀ d i (a : List α), i + d = x0.length → (∀ x ∈ a, sm x) → a.length ≤ i → (∀ x ∈ (List.range' i d).foldl (fun ac (i : Nat) => bif c i then ac ++ ([gt x0 (i : Int)] : List α) else ac) a, sm x) ∧ ((List.range' i d).foldl (fun ac (i : Nat) => bif c i then ac ++ ([gt x0 (i : Int)] : List α) else ac) a).length ≤ x0.length := by
    intro d
    induction d with
    | zero => intro i a hi ha hl; exact ⟨ha, by show a.length ≤ _; omega⟩
    | succ d ih =>
      intro i a hi ha hl
      rw [List.range'_succ, List.foldl_cons]
      refine ih (i + 1) _ (by omega) ?_ ?_
      · cases c i
        · exact ha
        · intro x hx
          rw [cond_true, List.mem_append] at hx
          rcases hx with hx | hx
          · exact ha x hx
          · rw [List.mem_singleton] at hx; subst hx; exact h.2 _ (gt_mem (by omega))
      · cases c i
        · show a.length ≤ i + 1; omega
        · simp; omega
  obtain ⟨h1, h2⟩ := key x0.length 0 [] (by omega) (fun x hx => by cases hx) (by simp)
  exact ⟨Nat.le_trans h2 h.1, h1⟩
theorem Lm_sub {α : Type} {sm : α → Prop} {xs ys : List α} (h : Lm sm xs) (s : ys.Sublist xs) : Lm sm ys := ⟨Nat.le_trans s.length_le h.1, fun x hx => h.2 x (s.subset hx)⟩
theorem fs_all {β : Type} {p : Nat → Option β} {n : Nat} (h : (List.range' 0 (n - 0)).findSome? p = none) : ∀ i, i < n → p i = none := by
  intro i hi
  rw [List.findSome?_eq_none_iff] at h
  exact h i (by rw [List.mem_range']; exact ⟨i, by omega, by omega⟩)
theorem onO_zero {l : List Nat} {p : Nat → Option Int} {c : Int} (h : onO (l.findSome? p) (fun r => r) c = 0) (hp : ∀ i, p i ≠ some 0) : l.findSome? p = none ∧ c = 0 := by
  cases hf : l.findSome? p with
  | none => rw [hf] at h; exact ⟨rfl, h⟩
  | some r =>
    rw [hf] at h
    obtain ⟨i, _, hi⟩ := List.exists_of_findSome?_eq_some hf
    have : r = 0 := h
    subst this
    exact absurd hi (hp i)
theorem range_foldl {α β : Type} [Inhabited α] (xs : List α) (f : β → α → β) (a : β) : (List.range' 0 (xs.length - 0)).foldl (fun ac (i : Nat) => f ac (gt xs (i : Int))) a = xs.foldl f a := by
  have key : ∀ d i a, i + d = xs.length → (List.range' i d).foldl (fun ac (i : Nat) => f ac (gt xs (i : Int))) a = (xs.drop i).foldl f a := by
    intro d
    induction d with
    | zero => intro i a h; rw [List.drop_eq_nil_of_le (by omega)]; rfl
    | succ d ih =>
      intro i a h
      have hi : i < xs.length := by omega
      rw [List.range'_succ, List.foldl_cons, ih (i + 1) _ (by omega), List.drop_eq_getElem_cons hi, List.foldl_cons, gt_eq (by simpa using hi)]
      simp
  simpa using key xs.length 0 a (by omega)
theorem fold_map {α β : Type} (g : α → β) : ∀ (xs : List α) (ys : List β), xs.foldl (fun ac x => ac ++ [g x]) ys = ys ++ xs.map g
  | [], ys => by simp
  | x :: xs, ys => by rw [List.foldl_cons, fold_map g xs]; simp
theorem leB_of {a b : Nat} (h : a ≤ b) : leB a b = true := decide_eq_true h
def spec_l1In_v (x0 : Int) (x1 : Int) (x2 : Int) : Bool := ((decide (x1 ≤ x0)) && (decide (x0 ≤ x2)))
theorem spec_l1In_ev (x0 : Int) (x1 : Int) (x2 : Int)  : Evt (fun k => spec_l1In.f k x0 x1 x2) (spec_l1In_v x0 x1 x2) :=
  (Evt.self _)
def spec_l3Ref_v (x0 : Ref) : Bool := ((spec_l1In_v x0.fTx 1 60) && (bif (spec_l1In_v x0.fTx 1 60) then (spec_l1In_v x0.fAt 0 3) else default))
theorem spec_l3Ref_ev (x0 : Ref)  : Evt (fun k => spec_l3Ref.f k x0) (spec_l3Ref_v x0) :=
  (Evt.bind (spec_l1In_ev x0.fTx 1 60) (Evt.bind (Evt.ifh (fun _ => (spec_l1In_ev x0.fAt 0 3)) (fun _ => Evt.self _)) (Evt.self _)))
def spec_l2Height_v (x0 : Int) : Bool := (spec_l1In_v x0 0 999)
theorem spec_l2Height_ev (x0 : Int)  : Evt (fun k => spec_l2Height.f k x0) (spec_l2Height_v x0) :=
  (Evt.bind (spec_l1In_ev x0 0 999) (Evt.self _))
def spec_l1Key_v (x0 : Int) : Bool := (spec_l1In_v x0 1 999)
theorem spec_l1Key_ev (x0 : Int)  : Evt (fun k => spec_l1Key.f k x0) (spec_l1Key_v x0) :=
  (Evt.bind (spec_l1In_ev x0 1 999) (Evt.self _))
def spec_l2Fault_v (x0 : Rule) : Int := (bif !(spec_l1In_v (x0.fKeys.length : Int) 1 3) then 2 else (onO ((List.range' 0 (x0.fKeys.length - 0)).findSome? (fun (i0 : Nat) => (bif !(spec_l1Key_v (gt x0.fKeys (i0 : Int))) then (some 3) else none))) (fun r => r) (bif ((!(spec_l1In_v x0.fNeed 1 (x0.fKeys.length : Int))) || (!(bif (!(!(spec_l1In_v x0.fNeed 1 (x0.fKeys.length : Int)))) then (spec_l2Height_v x0.fAfter) else default))) then 3 else (onO ((List.range' 1 (x0.fKeys.length - 1)).findSome? (fun (i2 : Nat) => (bif (decide ((gt x0.fKeys (i2 : Int)) ≤ (gt x0.fKeys (wrap64 ((i2 : Int) - 1))))) then (some 1) else none))) (fun r => r) 0))))
theorem spec_l2Fault_ev (x0 : Rule) (h_x0 : smRule x0) : Evt (fun k => spec_l2Fault.f k x0) (spec_l2Fault_v x0) :=
  (Evt.bind (spec_l1In_ev (x0.fKeys.length : Int) 1 3) (Evt.ifh (fun hc5 => (Evt.self _)) (fun hc5 => (Evt.loop (r' := fun r => r) (Evt.srch (L := (fun k i => spec_l2Fault.l0 x0 k i)) 0 x0.fKeys.length (by have := h_x0.1; first | (have := this.1; omega) | omega) (fun (i0 : Nat) => (bif !(spec_l1Key_v (gt x0.fKeys (i0 : Int))) then (some 3) else none)) (fun i0 hs2 hi2 => by
  have hbn : x0.fKeys.length ≤ 9223372036854775807 := (by have := h_x0.1; first | (have := this.1; omega) | omega)
  simp only [spec_l2Fault.l0_s]
  exact Evt_t2 (int_lt hi2) (StE.chk (by first | exact idx_ok (by omega) | exact idx_ok (by have hq := len_eq (by assumption); omega) | exact idx_found (show (0 : Int) ≤ (i0 : Int) by simp_all) | exact cut_ok (by omega) | exact or_ok (idx_ok (by omega)) | (refine or1 (fun hz => pre_ok (by simp at hz; omega) (by omega) (by omega))) | exact pre_ok (by omega) (by omega) (by omega) | (simp_all [idxOk, cutOk, leB]; done) | (simp_all [idxOk, cutOk, leB]; omega) | (simp [idxOk, cutOk, leB] at *; omega) | (have hf0 := h_x0.1.1; simp only [leB, decide_eq_true_eq, List.length_append, List.length_cons, List.length_nil]; omega)) (StE.bind (spec_l1Key_ev (gt x0.fKeys (i0 : Int))) (StE.ifh (fun hc1 => (StE.ret _)) (fun hc1 => StE.next))))) (fun j hj => by
  simp only [spec_l2Fault.l0_s]
  exact Evt.f (ge_lt hj) (Evt.self _))) (fun _ => rfl) (Evt.bind (spec_l1In_ev x0.fNeed 1 (x0.fKeys.length : Int)) (Evt.bind (Evt.ifh (fun _ => (spec_l2Height_ev x0.fAfter)) (fun _ => Evt.self _)) (Evt.ifh (fun hc4 => (Evt.self _)) (fun hc4 => (Evt.loop (r' := fun r => r) (Evt.srch (L := (fun k i => spec_l2Fault.l1 x0 k i)) 1 x0.fKeys.length (by have := h_x0.1; first | (have := this.1; omega) | omega) (fun (i2 : Nat) => (bif (decide ((gt x0.fKeys (i2 : Int)) ≤ (gt x0.fKeys (wrap64 ((i2 : Int) - 1))))) then (some 1) else none)) (fun i2 hs4 hi4 => by
  have hbn : x0.fKeys.length ≤ 9223372036854775807 := (by have := h_x0.1; first | (have := this.1; omega) | omega)
  simp only [spec_l2Fault.l1_s]
  exact Evt_t2 (int_lt hi4) (StE.chk (by first | exact idx_ok (by omega) | exact idx_ok (by have hq := len_eq (by assumption); omega) | exact idx_found (show (0 : Int) ≤ (i2 : Int) by simp_all) | exact cut_ok (by omega) | exact or_ok (idx_ok (by omega)) | (refine or1 (fun hz => pre_ok (by simp at hz; omega) (by omega) (by omega))) | exact pre_ok (by omega) (by omega) (by omega) | (simp_all [idxOk, cutOk, leB]; done) | (simp_all [idxOk, cutOk, leB]; omega) | (simp [idxOk, cutOk, leB] at *; omega) | (have hf0 := h_x0.1.1; simp only [leB, decide_eq_true_eq, List.length_append, List.length_cons, List.length_nil]; omega)) (StE.chk (by first | exact idx_ok (by omega) | exact idx_ok (by have hq := len_eq (by assumption); omega) | exact idx_found (show (0 : Int) ≤ (wrap64 ((i2 : Int) - 1)) by simp_all) | exact cut_ok (by omega) | exact or_ok (idx_ok (by omega)) | (refine or1 (fun hz => pre_ok (by simp at hz; omega) (by omega) (by omega))) | exact pre_ok (by omega) (by omega) (by omega) | (simp_all [idxOk, cutOk, leB]; done) | (simp_all [idxOk, cutOk, leB]; omega) | (simp [idxOk, cutOk, leB] at *; omega) | (have hf0 := h_x0.1.1; simp only [leB, decide_eq_true_eq, List.length_append, List.length_cons, List.length_nil]; omega)) (StE.ifh (fun hc3 => (StE.ret _)) (fun hc3 => StE.next))))) (fun j hj => by
  simp only [spec_l2Fault.l1_s]
  exact Evt.f (ge_lt hj) (Evt.self _))) (fun _ => rfl) (Evt.self _))))))))))
def spec_l4Out_v (x0 : Out) : Int := (bif !(spec_l1In_v x0.fValue 1 1000000) then 3 else (spec_l2Fault_v x0.fRule))
theorem spec_l4Out_ev (x0 : Out) (h_x0 : smOut x0) : Evt (fun k => spec_l4Out.f k x0) (spec_l4Out_v x0) :=
  (Evt.bind (spec_l1In_ev x0.fValue 1 1000000) (Evt.ifh (fun hc0 => (Evt.self _)) (fun hc0 => (Evt.bind (spec_l2Fault_ev x0.fRule (h_x0.2)) (Evt.self _)))))
def spec_l4Ahead_v (x0 : Ref) (x1 : Ref) : Bool := (bif (x0.fTx != x1.fTx) then (decide (x0.fTx < x1.fTx)) else (decide (x0.fAt < x1.fAt)))
theorem spec_l4Ahead_ev (x0 : Ref) (x1 : Ref)  : Evt (fun k => spec_l4Ahead.f k x0 x1) (spec_l4Ahead_v x0 x1) :=
  (Evt.ifh (fun hc0 => (Evt.self _)) (fun hc0 => (Evt.self _)))
def spec_l4Fault_v (x0 : List Coin) : Int := (bif (decide (40 < (x0.length : Int))) then 2 else (onO ((List.range' 0 (x0.length - 0)).findSome? (fun (i0 : Nat) => (bif ((!(spec_l3Ref_v ((gt x0 (i0 : Int)).fRef))) || (!(bif (!(!(spec_l3Ref_v ((gt x0 (i0 : Int)).fRef)))) then (spec_l2Height_v ((gt x0 (i0 : Int)).fHeight)) else default))) then (some 3) else (bif ((spec_l4Out_v ((gt x0 (i0 : Int)).fOut)) != 0) then (some (spec_l4Out_v ((gt x0 (i0 : Int)).fOut))) else (bif ((decide (0 < (i0 : Int))) && (!(bif (decide (0 < (i0 : Int))) then (spec_l4Ahead_v ((gt x0 (wrap64 ((i0 : Int) - 1))).fRef) ((gt x0 (i0 : Int)).fRef)) else default))) then (some 1) else none))))) (fun r => r) 0))
theorem spec_l4Fault_ev (x0 : List Coin) (h_x0 : (Lm smCoin) x0) : Evt (fun k => spec_l4Fault.f k x0) (spec_l4Fault_v x0) :=
  (Evt.ifh (fun hc4 => (Evt.self _)) (fun hc4 => (Evt.loop (r' := fun r => r) (Evt.srch (L := (fun k i => spec_l4Fault.l0 x0 k i)) 0 x0.length (by have := h_x0; first | (have := this.1; omega) | omega) (fun (i0 : Nat) => (bif ((!(spec_l3Ref_v ((gt x0 (i0 : Int)).fRef))) || (!(bif (!(!(spec_l3Ref_v ((gt x0 (i0 : Int)).fRef)))) then (spec_l2Height_v ((gt x0 (i0 : Int)).fHeight)) else default))) then (some 3) else (bif ((spec_l4Out_v ((gt x0 (i0 : Int)).fOut)) != 0) then (some (spec_l4Out_v ((gt x0 (i0 : Int)).fOut))) else (bif ((decide (0 < (i0 : Int))) && (!(bif (decide (0 < (i0 : Int))) then (spec_l4Ahead_v ((gt x0 (wrap64 ((i0 : Int) - 1))).fRef) ((gt x0 (i0 : Int)).fRef)) else default))) then (some 1) else none)))) (fun i0 hs4 hi4 => by
  have hbn : x0.length ≤ 9223372036854775807 := (by have := h_x0; first | (have := this.1; omega) | omega)
  simp only [spec_l4Fault.l0_s]
  exact Evt_t2 (int_lt hi4) (StE.chk (by first | exact idx_ok (by omega) | exact idx_ok (by have hq := len_eq (by assumption); omega) | exact idx_found (show (0 : Int) ≤ (i0 : Int) by simp_all) | exact cut_ok (by omega) | exact or_ok (idx_ok (by omega)) | (refine or1 (fun hz => pre_ok (by simp at hz; omega) (by omega) (by omega))) | exact pre_ok (by omega) (by omega) (by omega) | (simp_all [idxOk, cutOk, leB]; done) | (simp_all [idxOk, cutOk, leB]; omega) | (simp [idxOk, cutOk, leB] at *; omega) | (have hf0 := h_x0.1; simp only [leB, decide_eq_true_eq, List.length_append, List.length_cons, List.length_nil]; omega)) (StE.bind (spec_l3Ref_ev ((gt x0 (i0 : Int)).fRef)) (StE.chk (by first | exact idx_ok (by omega) | exact idx_ok (by have hq := len_eq (by assumption); omega) | exact idx_found (by simp_all) | exact cut_ok (by omega) | exact or_ok (idx_ok (by omega)) | (refine or1 (fun hz => pre_ok (by simp at hz; omega) (by omega) (by omega))) | exact pre_ok (by omega) (by omega) (by omega) | (simp_all [idxOk, cutOk, leB]; done) | (simp_all [idxOk, cutOk, leB]; omega) | (simp [idxOk, cutOk, leB] at *; omega) | (have hf0 := h_x0.1; simp only [leB, decide_eq_true_eq, List.length_append, List.length_cons, List.length_nil]; omega)) (StE.bind (Evt.ifh (fun _ => (spec_l2Height_ev ((gt x0 (i0 : Int)).fHeight))) (fun _ => Evt.self _)) (StE.ifh (fun hc3 => (StE.ret _)) (fun hc3 => (StE.chk (by first | exact idx_ok (by omega) | exact idx_ok (by have hq := len_eq (by assumption); omega) | exact idx_found (show (0 : Int) ≤ (i0 : Int) by simp_all) | exact cut_ok (by omega) | exact or_ok (idx_ok (by omega)) | (refine or1 (fun hz => pre_ok (by simp at hz; omega) (by omega) (by omega))) | exact pre_ok (by omega) (by omega) (by omega) | (simp_all [idxOk, cutOk, leB]; done) | (simp_all [idxOk, cutOk, leB]; omega) | (simp [idxOk, cutOk, leB] at *; omega) | (have hf0 := h_x0.1; simp only [leB, decide_eq_true_eq, List.length_append, List.length_cons, List.length_nil]; omega)) (StE.bind (spec_l4Out_ev ((gt x0 (i0 : Int)).fOut) (((h_x0).2 _ (gt_mem (by first | omega | (have hq := len_eq (by assumption); omega) | (have hf0 := h_x0.1; simp only [leB, decide_eq_true_eq, List.length_append, List.length_cons, List.length_nil]; omega)))).2.1)) (StE.ifh (fun hc2 => (StE.ret _)) (fun hc2 => (StE.chk (by first | exact idx_ok (by omega) | exact idx_ok (by have hq := len_eq (by assumption); omega) | exact idx_found (by simp_all) | exact cut_ok (by omega) | exact or_ok (idx_ok (by omega)) | (refine or1 (fun hz => pre_ok (by simp at hz; omega) (by omega) (by omega))) | exact pre_ok (by omega) (by omega) (by omega) | (simp_all [idxOk, cutOk, leB]; done) | (simp_all [idxOk, cutOk, leB]; omega) | (simp [idxOk, cutOk, leB] at *; omega) | (have hf0 := h_x0.1; simp only [leB, decide_eq_true_eq, List.length_append, List.length_cons, List.length_nil]; omega)) (StE.chk (by first | exact idx_ok (by omega) | exact idx_ok (by have hq := len_eq (by assumption); omega) | exact idx_found (by simp_all) | exact cut_ok (by omega) | exact or_ok (idx_ok (by omega)) | (refine or1 (fun hz => pre_ok (by simp at hz; omega) (by omega) (by omega))) | exact pre_ok (by omega) (by omega) (by omega) | (simp_all [idxOk, cutOk, leB]; done) | (simp_all [idxOk, cutOk, leB]; omega) | (simp [idxOk, cutOk, leB] at *; omega) | (have hf0 := h_x0.1; simp only [leB, decide_eq_true_eq, List.length_append, List.length_cons, List.length_nil]; omega)) (StE.bind (Evt.ifh (fun _ => (spec_l4Ahead_ev ((gt x0 (wrap64 ((i0 : Int) - 1))).fRef) ((gt x0 (i0 : Int)).fRef))) (fun _ => Evt.self _)) (StE.ifh (fun hc1 => (StE.ret _)) (fun hc1 => StE.next)))))))))))))))) (fun j hj => by
  simp only [spec_l4Fault.l0_s]
  exact Evt.f (ge_lt hj) (Evt.self _))) (fun _ => rfl) (Evt.self _))))
def spec_l3Among_v (x0 : List Ref) (x1 : Ref) : Bool := (onO ((List.range' 0 (x0.length - 0)).findSome? (fun (i0 : Nat) => (bif ((((gt x0 (i0 : Int)).fTx) == x1.fTx) && (((gt x0 (i0 : Int)).fAt) == x1.fAt)) then (some true) else none))) (fun r => r) false)
theorem spec_l3Among_ev (x0 : List Ref) (x1 : Ref) (h_x0 : (Lm smRef) x0) : Evt (fun k => spec_l3Among.f k x0 x1) (spec_l3Among_v x0 x1) :=
  (Evt.loop (r' := fun r => r) (Evt.srch (L := (fun k i => spec_l3Among.l0 x0 x1 k i)) 0 x0.length (by have := h_x0; first | (have := this.1; omega) | omega) (fun (i0 : Nat) => (bif ((((gt x0 (i0 : Int)).fTx) == x1.fTx) && (((gt x0 (i0 : Int)).fAt) == x1.fAt)) then (some true) else none)) (fun i0 hs2 hi2 => by
  have hbn : x0.length ≤ 9223372036854775807 := (by have := h_x0; first | (have := this.1; omega) | omega)
  simp only [spec_l3Among.l0_s]
  exact Evt_t2 (int_lt hi2) (StE.chk (by first | exact idx_ok (by omega) | exact idx_ok (by have hq := len_eq (by assumption); omega) | exact idx_found (show (0 : Int) ≤ (i0 : Int) by simp_all) | exact cut_ok (by omega) | exact or_ok (idx_ok (by omega)) | (refine or1 (fun hz => pre_ok (by simp at hz; omega) (by omega) (by omega))) | exact pre_ok (by omega) (by omega) (by omega) | (simp_all [idxOk, cutOk, leB]; done) | (simp_all [idxOk, cutOk, leB]; omega) | (simp [idxOk, cutOk, leB] at *; omega) | (have hf0 := h_x0.1; simp only [leB, decide_eq_true_eq, List.length_append, List.length_cons, List.length_nil]; omega)) (StE.ifh (fun hc1 => (StE.ret _)) (fun hc1 => StE.next)))) (fun j hj => by
  simp only [spec_l3Among.l0_s]
  exact Evt.f (ge_lt hj) (Evt.self _))) (fun _ => rfl) (Evt.self _))
def spec_l3Outs_v (x0 : Tx) : Int := (onO ((List.range' 0 (x0.fOuts.length - 0)).findSome? (fun (i0 : Nat) => (bif !(spec_l1In_v ((gt x0.fOuts (i0 : Int)).fValue) 1 1000000) then (some 3) else (bif ((spec_l2Fault_v ((gt x0.fOuts (i0 : Int)).fRule)) != 0) then (some (spec_l2Fault_v ((gt x0.fOuts (i0 : Int)).fRule))) else none)))) (fun r => r) (bif ((x0.fKind == 1) && (decide (((gt x0.fOuts (0 : Int)).fValue) < 100))) then 8 else 0))
theorem spec_l3Outs_ev (x0 : Tx) (h_x0 : smTx x0) (hpre : 0 < x0.fOuts.length) : Evt (fun k => spec_l3Outs.f k x0) (spec_l3Outs_v x0) :=
  (Evt.loop (r' := fun r => r) (Evt.srch (L := (fun k i => spec_l3Outs.l0 x0 k i)) 0 x0.fOuts.length (by have := h_x0.2.2.2; first | (have := this.1; omega) | omega) (fun (i0 : Nat) => (bif !(spec_l1In_v ((gt x0.fOuts (i0 : Int)).fValue) 1 1000000) then (some 3) else (bif ((spec_l2Fault_v ((gt x0.fOuts (i0 : Int)).fRule)) != 0) then (some (spec_l2Fault_v ((gt x0.fOuts (i0 : Int)).fRule))) else none))) (fun i0 hs3 hi3 => by
  have hbn : x0.fOuts.length ≤ 9223372036854775807 := (by have := h_x0.2.2.2; first | (have := this.1; omega) | omega)
  simp only [spec_l3Outs.l0_s]
  exact Evt_t2 (int_lt hi3) (StE.chk (by first | exact idx_ok (by omega) | exact idx_ok (by have hq := len_eq (by assumption); omega) | exact idx_found (show (0 : Int) ≤ (i0 : Int) by simp_all) | exact cut_ok (by omega) | exact or_ok (idx_ok (by omega)) | (refine or1 (fun hz => pre_ok (by simp at hz; omega) (by omega) (by omega))) | exact pre_ok (by omega) (by omega) (by omega) | (simp_all [idxOk, cutOk, leB]; done) | (simp_all [idxOk, cutOk, leB]; omega) | (simp [idxOk, cutOk, leB] at *; omega) | (simp_all [idxOk]; omega) | (simp [idxOk]; omega) | (have hf0 := h_x0.2.2.1.1; have hf1 := h_x0.2.2.2.1; simp only [leB, decide_eq_true_eq, List.length_append, List.length_cons, List.length_nil]; omega)) (StE.bind (spec_l1In_ev ((gt x0.fOuts (i0 : Int)).fValue) 1 1000000) (StE.ifh (fun hc2 => (StE.ret _)) (fun hc2 => (StE.chk (by first | exact idx_ok (by omega) | exact idx_ok (by have hq := len_eq (by assumption); omega) | exact idx_found (show (0 : Int) ≤ (i0 : Int) by simp_all) | exact cut_ok (by omega) | exact or_ok (idx_ok (by omega)) | (refine or1 (fun hz => pre_ok (by simp at hz; omega) (by omega) (by omega))) | exact pre_ok (by omega) (by omega) (by omega) | (simp_all [idxOk, cutOk, leB]; done) | (simp_all [idxOk, cutOk, leB]; omega) | (simp [idxOk, cutOk, leB] at *; omega) | (simp_all [idxOk]; omega) | (simp [idxOk]; omega) | (have hf0 := h_x0.2.2.1.1; have hf1 := h_x0.2.2.2.1; simp only [leB, decide_eq_true_eq, List.length_append, List.length_cons, List.length_nil]; omega)) (StE.bind (spec_l2Fault_ev ((gt x0.fOuts (i0 : Int)).fRule) (((h_x0.2.2.2).2 _ (gt_mem (by first | omega | (have hq := len_eq (by assumption); omega) | (simp_all [idxOk]; omega) | (simp [idxOk]; omega) | (have hf0 := h_x0.2.2.1.1; have hf1 := h_x0.2.2.2.1; simp only [leB, decide_eq_true_eq, List.length_append, List.length_cons, List.length_nil]; omega)))).2)) (StE.ifh (fun hc1 => (StE.ret _)) (fun hc1 => StE.next))))))))) (fun j hj => by
  simp only [spec_l3Outs.l0_s]
  exact Evt.f (ge_lt hj) (Evt.self _))) (fun _ => rfl) (Evt.chk (by first | exact idx_ok (by omega) | exact idx_ok (by have hq := len_eq (by assumption); omega) | exact idx_found (by simp_all) | exact cut_ok (by omega) | exact or_ok (idx_ok (by omega)) | (refine or1 (fun hz => pre_ok (by simp at hz; omega) (by omega) (by omega))) | exact pre_ok (by omega) (by omega) (by omega) | (simp_all [idxOk, cutOk, leB]; done) | (simp_all [idxOk, cutOk, leB]; omega) | (simp [idxOk, cutOk, leB] at *; omega) | (simp_all [idxOk]; omega) | (simp [idxOk]; omega) | (have hf0 := h_x0.2.2.1.1; have hf1 := h_x0.2.2.2.1; simp only [leB, decide_eq_true_eq, List.length_append, List.length_cons, List.length_nil]; omega)) (Evt.ifh (fun hc3 => (Evt.self _)) (fun hc3 => (Evt.self _)))))
def spec_l3Fault_v (x0 : Tx) : Int := (bif ((!(spec_l1In_v x0.fKind 0 2)) || ((x0.fKind == 0) != (x0.fMember == 0))) then 1 else (bif ((x0.fKind != 0) && (!(bif (x0.fKind != 0) then (spec_l1Key_v x0.fMember) else default))) then 3 else (bif ((!(spec_l1In_v (x0.fIns.length : Int) 1 4)) || (!(bif (!(!(spec_l1In_v (x0.fIns.length : Int) 1 4))) then (spec_l1In_v (x0.fOuts.length : Int) 1 4) else default))) then 2 else (onO ((List.range' 0 (x0.fIns.length - 0)).findSome? (fun (i0 : Nat) => (bif !(spec_l3Ref_v (gt x0.fIns (i0 : Int))) then (some 3) else (bif (spec_l3Among_v (x0.fIns.take ((i0 : Int)).toNat) (gt x0.fIns (i0 : Int))) then (some 7) else none)))) (fun r => r) (spec_l3Outs_v x0)))))
theorem spec_l3Fault_ev (x0 : Tx) (h_x0 : smTx x0) : Evt (fun k => spec_l3Fault.f k x0) (spec_l3Fault_v x0) :=
  (Evt.bind (spec_l1In_ev x0.fKind 0 2) (Evt.ifh (fun hc5 => (Evt.self _)) (fun hc5 => (Evt.bind (Evt.ifh (fun _ => (spec_l1Key_ev x0.fMember)) (fun _ => Evt.self _)) (Evt.ifh (fun hc4 => (Evt.self _)) (fun hc4 => (Evt.bind (spec_l1In_ev (x0.fIns.length : Int) 1 4) (Evt.bind (Evt.ifh (fun _ => (spec_l1In_ev (x0.fOuts.length : Int) 1 4)) (fun _ => Evt.self _)) (Evt.ifh (fun hc3 => (Evt.self _)) (fun hc3 => (Evt.loop (r' := fun r => r) (Evt.srch (L := (fun k i => spec_l3Fault.l0 x0 k i)) 0 x0.fIns.length (by have := h_x0.2.2.1; first | (have := this.1; omega) | omega) (fun (i0 : Nat) => (bif !(spec_l3Ref_v (gt x0.fIns (i0 : Int))) then (some 3) else (bif (spec_l3Among_v (x0.fIns.take ((i0 : Int)).toNat) (gt x0.fIns (i0 : Int))) then (some 7) else none))) (fun i0 hs3 hi3 => by
  have hbn : x0.fIns.length ≤ 9223372036854775807 := (by have := h_x0.2.2.1; first | (have := this.1; omega) | omega)
  simp only [spec_l3Fault.l0_s]
  exact Evt_t2 (int_lt hi3) (StE.chk (by first | exact idx_ok (by omega) | exact idx_ok (by have hq := len_eq (by assumption); omega) | exact idx_found (show (0 : Int) ≤ (i0 : Int) by simp_all) | exact cut_ok (by omega) | exact or_ok (idx_ok (by omega)) | (refine or1 (fun hz => pre_ok (by simp at hz; omega) (by omega) (by omega))) | exact pre_ok (by omega) (by omega) (by omega) | (simp_all [idxOk, cutOk, leB]; done) | (simp_all [idxOk, cutOk, leB]; omega) | (simp [idxOk, cutOk, leB] at *; omega) | (simp_all [spec_l1In_v]; omega) | (have hf0 := h_x0.2.2.1.1; have hf1 := h_x0.2.2.2.1; simp only [leB, decide_eq_true_eq, List.length_append, List.length_cons, List.length_nil]; omega)) (StE.bind (spec_l3Ref_ev (gt x0.fIns (i0 : Int))) (StE.ifh (fun hc2 => (StE.ret _)) (fun hc2 => (StE.chk (by first | exact idx_ok (by omega) | exact idx_ok (by have hq := len_eq (by assumption); omega) | exact idx_found (by simp_all) | exact cut_ok (by omega) | exact or_ok (idx_ok (by omega)) | (refine or1 (fun hz => pre_ok (by simp at hz; omega) (by omega) (by omega))) | exact pre_ok (by omega) (by omega) (by omega) | (simp_all [idxOk, cutOk, leB]; done) | (simp_all [idxOk, cutOk, leB]; omega) | (simp [idxOk, cutOk, leB] at *; omega) | (simp_all [spec_l1In_v]; omega) | (have hf0 := h_x0.2.2.1.1; have hf1 := h_x0.2.2.2.1; simp only [leB, decide_eq_true_eq, List.length_append, List.length_cons, List.length_nil]; omega)) (StE.chk (by first | exact idx_ok (by omega) | exact idx_ok (by have hq := len_eq (by assumption); omega) | exact idx_found (show (0 : Int) ≤ (i0 : Int) by simp_all) | exact cut_ok (by omega) | exact or_ok (idx_ok (by omega)) | (refine or1 (fun hz => pre_ok (by simp at hz; omega) (by omega) (by omega))) | exact pre_ok (by omega) (by omega) (by omega) | (simp_all [idxOk, cutOk, leB]; done) | (simp_all [idxOk, cutOk, leB]; omega) | (simp [idxOk, cutOk, leB] at *; omega) | (simp_all [spec_l1In_v]; omega) | (have hf0 := h_x0.2.2.1.1; have hf1 := h_x0.2.2.2.1; simp only [leB, decide_eq_true_eq, List.length_append, List.length_cons, List.length_nil]; omega)) (StE.bind (spec_l3Among_ev (x0.fIns.take ((i0 : Int)).toNat) (gt x0.fIns (i0 : Int)) ((Lm_take h_x0.2.2.1))) (StE.ifh (fun hc1 => (StE.ret _)) (fun hc1 => StE.next)))))))))) (fun j hj => by
  simp only [spec_l3Fault.l0_s]
  exact Evt.f (ge_lt hj) (Evt.self _))) (fun _ => rfl) (Evt.bind (spec_l3Outs_ev x0 (h_x0) (by first | assumption | (simp_all; omega) | (simp_all [spec_l1In_v]; omega) | (have hf0 := h_x0.2.2.1.1; have hf1 := h_x0.2.2.2.1; simp only [leB, decide_eq_true_eq, List.length_append, List.length_cons, List.length_nil]; omega))) (Evt.self _)))))))))))))
def spec_l2Copy_v (x0 : Rule) : Rule := (⟨([] : List Int) ++ x0.fKeys, x0.fNeed, x0.fAfter⟩ : Rule)
theorem spec_l2Copy_ev (x0 : Rule) (h_x0 : smRule x0) : Evt (fun k => spec_l2Copy.f k x0) (spec_l2Copy_v x0) :=
  (Evt.chk (by first | exact idx_ok (by omega) | exact idx_ok (by have hq := len_eq (by assumption); omega) | exact idx_found (by simp_all) | exact cut_ok (by omega) | exact or_ok (idx_ok (by omega)) | (refine or1 (fun hz => pre_ok (by simp at hz; omega) (by omega) (by omega))) | exact pre_ok (by omega) (by omega) (by omega) | (simp_all [idxOk, cutOk, leB]; done) | (simp_all [idxOk, cutOk, leB]; omega) | (simp [idxOk, cutOk, leB] at *; omega) | (have hf0 := h_x0.1.1; simp only [leB, decide_eq_true_eq, List.length_append, List.length_cons, List.length_nil]; omega)) (Evt.self _))
def spec_l4Copy_v (x0 : List Coin) : (List Coin) := ((List.range' 0 (x0.length - 0)).foldl (fun ac1 (i0 : Nat) => ((ac1 ++ ([(⟨(gt x0 (i0 : Int)).fRef, (⟨(gt x0 (i0 : Int)).fOut.fValue, (spec_l2Copy_v ((gt x0 (i0 : Int)).fOut.fRule))⟩ : Out), (gt x0 (i0 : Int)).fHeight, (gt x0 (i0 : Int)).fMined⟩ : Coin)] : List Coin)))) ([] : List Coin))
theorem spec_l4Copy_ev (x0 : List Coin) (h_x0 : (Lm smCoin) x0) : Evt (fun k => spec_l4Copy.f k x0) (spec_l4Copy_v x0) :=
  (Evt.bind (Evt.gatherL (L := (fun k ac i => spec_l4Copy.l0 x0 k ac i)) x0.length (by have := h_x0; first | (have := this.1; omega) | omega) (fun ac1 (i0 : Nat) => ((ac1 ++ ([(⟨(gt x0 (i0 : Int)).fRef, (⟨(gt x0 (i0 : Int)).fOut.fValue, (spec_l2Copy_v ((gt x0 (i0 : Int)).fOut.fRule))⟩ : Out), (gt x0 (i0 : Int)).fHeight, (gt x0 (i0 : Int)).fMined⟩ : Coin)] : List Coin)))) (fun i0 hi1 ac1 hgl => (by first | (simp only [List.length_append, List.length_cons, List.length_nil]; omega) | omega)) (fun i0 hi1 ac1 hgl o hg => by
  have hbn : x0.length ≤ 1048576 := (by have := h_x0; first | (have := this.1; omega) | omega)
  simp only [spec_l4Copy.l0_s]
  exact Evt.t (int_lt hi1) (Evt.chk (by first | (simp only [leB, decide_eq_true_eq, List.length_append, List.length_cons, List.length_nil]; omega) | exact idx_ok (by omega) | exact idx_ok (by have hq := len_eq (by assumption); omega) | exact idx_found (by simp_all) | exact cut_ok (by omega) | exact or_ok (idx_ok (by omega)) | (refine or1 (fun hz => pre_ok (by simp at hz; omega) (by omega) (by omega))) | exact pre_ok (by omega) (by omega) (by omega) | (simp_all [idxOk, cutOk, leB]; done) | (simp_all [idxOk, cutOk, leB]; omega) | (simp [idxOk, cutOk, leB] at *; omega) | (have hf0 := h_x0.1; simp only [leB, decide_eq_true_eq, List.length_append, List.length_cons, List.length_nil]; omega)) (Evt.bind (spec_l2Copy_ev ((gt x0 (i0 : Int)).fOut.fRule) ((((h_x0).2 _ (gt_mem (by first | omega | (have hq := len_eq (by assumption); omega) | (have hf0 := h_x0.1; simp only [leB, decide_eq_true_eq, List.length_append, List.length_cons, List.length_nil]; omega)))).2.1).2)) (Evt.chk (by first | (simp only [leB, decide_eq_true_eq, List.length_append, List.length_cons, List.length_nil]; omega) | exact idx_ok (by omega) | exact idx_ok (by have hq := len_eq (by assumption); omega) | exact idx_found (by simp_all) | exact cut_ok (by omega) | exact or_ok (idx_ok (by omega)) | (refine or1 (fun hz => pre_ok (by simp at hz; omega) (by omega) (by omega))) | exact pre_ok (by omega) (by omega) (by omega) | (simp_all [idxOk, cutOk, leB]; done) | (simp_all [idxOk, cutOk, leB]; omega) | (simp [idxOk, cutOk, leB] at *; omega) | (have hf0 := h_x0.1; simp only [leB, decide_eq_true_eq, List.length_append, List.length_cons, List.length_nil]; omega)) hg)))) (fun j ac hj => by
  simp only [spec_l4Copy.l0_s]
  exact Evt.f (ge_lt hj) (Evt.self _))) (Evt.self _))
theorem l2Copy_id (r : Rule) : spec_l2Copy_v r = r := by simp [spec_l2Copy_v]
theorem l4Copy_id (x0 : List Coin) : spec_l4Copy_v x0 = x0 := by
  have h := range_foldl x0 (fun ac (x : Coin) => ac ++ [(⟨x.fRef, ⟨x.fOut.fValue, spec_l2Copy_v x.fOut.fRule⟩, x.fHeight, x.fMined⟩ : Coin)]) []
  refine Eq.trans h ?_
  rw [fold_map]
  simp only [l2Copy_id]
  simp
def spec_l5Spent_v (x0 : List Coin) (x1 : Tx) : (List Coin) × Bool := ((spec_l4Copy_v ((List.range' 0 (x0.length - 0)).foldl (fun ac1 (i0 : Nat) => (bif (spec_l3Among_v x1.fIns ((gt x0 (i0 : Int)).fRef)) then ((ac1 ++ ([(gt x0 (i0 : Int))] : List Coin))) else (ac1))) ([] : List Coin))), ((((List.range' 0 (x0.length - 0)).foldl (fun ac1 (i0 : Nat) => (bif (spec_l3Among_v x1.fIns ((gt x0 (i0 : Int)).fRef)) then ((ac1 ++ ([(gt x0 (i0 : Int))] : List Coin))) else (ac1))) ([] : List Coin)).length : Int) == (x1.fIns.length : Int)))
theorem spec_l5Spent_ev (x0 : List Coin) (x1 : Tx) (h_x0 : (Lm smCoin) x0) (h_x1 : smTx x1) : Evt (fun k => spec_l5Spent.f k x0 x1) (spec_l5Spent_v x0 x1) :=
  (Evt.bind (Evt.gatherL (L := (fun k ac i => spec_l5Spent.l0 x0 x1 k ac i)) x0.length (by have := h_x0; first | (have := this.1; omega) | omega) (fun ac1 (i0 : Nat) => (bif (spec_l3Among_v x1.fIns ((gt x0 (i0 : Int)).fRef)) then ((ac1 ++ ([(gt x0 (i0 : Int))] : List Coin))) else (ac1))) (fun i0 hi2 ac1 hgl => (len_bif (by first | (simp only [List.length_append, List.length_cons, List.length_nil]; omega) | omega) (by first | (simp only [List.length_append, List.length_cons, List.length_nil]; omega) | omega))) (fun i0 hi2 ac1 hgl o hg => by
  have hbn : x0.length ≤ 1048576 := (by have := h_x0; first | (have := this.1; omega) | omega)
  simp only [spec_l5Spent.l0_s]
  exact Evt.t (int_lt hi2) (Evt.chk (by first | (simp only [leB, decide_eq_true_eq, List.length_append, List.length_cons, List.length_nil]; omega) | exact idx_ok (by omega) | exact idx_ok (by have hq := len_eq (by assumption); omega) | exact idx_found (by simp_all) | exact cut_ok (by omega) | exact or_ok (idx_ok (by omega)) | (refine or1 (fun hz => pre_ok (by simp at hz; omega) (by omega) (by omega))) | exact pre_ok (by omega) (by omega) (by omega) | (simp_all [idxOk, cutOk, leB]; done) | (simp_all [idxOk, cutOk, leB]; omega) | (simp [idxOk, cutOk, leB] at *; omega) | (have hf0 := h_x0.1; have hf1 := h_x1.2.2.1.1; have hf2 := h_x1.2.2.2.1; simp only [leB, decide_eq_true_eq, List.length_append, List.length_cons, List.length_nil]; omega)) (Evt.bind (spec_l3Among_ev x1.fIns ((gt x0 (i0 : Int)).fRef) (h_x1.2.2.1)) (Evt.cases (fun hc1 => (by rw [hc1] at hg; exact (Evt.chk (by first | (simp only [leB, decide_eq_true_eq, List.length_append, List.length_cons, List.length_nil]; omega) | exact idx_ok (by omega) | exact idx_ok (by have hq := len_eq (by assumption); omega) | exact idx_found (by simp_all) | exact cut_ok (by omega) | exact or_ok (idx_ok (by omega)) | (refine or1 (fun hz => pre_ok (by simp at hz; omega) (by omega) (by omega))) | exact pre_ok (by omega) (by omega) (by omega) | (simp_all [idxOk, cutOk, leB]; done) | (simp_all [idxOk, cutOk, leB]; omega) | (simp [idxOk, cutOk, leB] at *; omega) | (have hf0 := h_x0.1; have hf1 := h_x1.2.2.1.1; have hf2 := h_x1.2.2.2.1; simp only [leB, decide_eq_true_eq, List.length_append, List.length_cons, List.length_nil]; omega)) (Evt.chk (by first | (simp only [leB, decide_eq_true_eq, List.length_append, List.length_cons, List.length_nil]; omega) | exact idx_ok (by omega) | exact idx_ok (by have hq := len_eq (by assumption); omega) | exact idx_found (by simp_all) | exact cut_ok (by omega) | exact or_ok (idx_ok (by omega)) | (refine or1 (fun hz => pre_ok (by simp at hz; omega) (by omega) (by omega))) | exact pre_ok (by omega) (by omega) (by omega) | (simp_all [idxOk, cutOk, leB]; done) | (simp_all [idxOk, cutOk, leB]; omega) | (simp [idxOk, cutOk, leB] at *; omega) | (have hf0 := h_x0.1; have hf1 := h_x1.2.2.1.1; have hf2 := h_x1.2.2.2.1; simp only [leB, decide_eq_true_eq, List.length_append, List.length_cons, List.length_nil]; omega)) hg)))) (fun hc1 => (by rw [hc1] at hg; exact hg)))))) (fun j ac hj => by
  simp only [spec_l5Spent.l0_s]
  exact Evt.f (ge_lt hj) (Evt.self _))) (Evt.bind (spec_l4Copy_ev ((List.range' 0 (x0.length - 0)).foldl (fun ac1 (i0 : Nat) => (bif (spec_l3Among_v x1.fIns ((gt x0 (i0 : Int)).fRef)) then ((ac1 ++ ([(gt x0 (i0 : Int))] : List Coin))) else (ac1))) ([] : List Coin)) ((Lm_gath x0 h_x0 _))) (Evt.self _)))
def spec_l2Ints_v (x0 : List Int) (x1 : List Int) : Bool := (bif ((x0.length : Int) != (x1.length : Int)) then false else (onO ((List.range' 0 (x0.length - 0)).findSome? (fun (i0 : Nat) => (bif ((gt x0 (i0 : Int)) != (gt x1 (i0 : Int))) then (some false) else none))) (fun r => r) true))
theorem spec_l2Ints_ev (x0 : List Int) (x1 : List Int) (h_x0 : (Lm tr) x0) (h_x1 : (Lm tr) x1) : Evt (fun k => spec_l2Ints.f k x0 x1) (spec_l2Ints_v x0 x1) :=
  (Evt.ifh (fun hc2 => (Evt.self _)) (fun hc2 => (Evt.loop (r' := fun r => r) (Evt.srch (L := (fun k i => spec_l2Ints.l0 x0 x1 k i)) 0 x0.length (by have := h_x0; first | (have := this.1; omega) | omega) (fun (i0 : Nat) => (bif ((gt x0 (i0 : Int)) != (gt x1 (i0 : Int))) then (some false) else none)) (fun i0 hs2 hi2 => by
  have hbn : x0.length ≤ 9223372036854775807 := (by have := h_x0; first | (have := this.1; omega) | omega)
  simp only [spec_l2Ints.l0_s]
  exact Evt_t2 (int_lt hi2) (StE.chk (by first | exact idx_ok (by omega) | exact idx_ok (by have hq := len_eq (by assumption); omega) | exact idx_found (show (0 : Int) ≤ (i0 : Int) by simp_all) | exact cut_ok (by omega) | exact or_ok (idx_ok (by omega)) | (refine or1 (fun hz => pre_ok (by simp at hz; omega) (by omega) (by omega))) | exact pre_ok (by omega) (by omega) (by omega) | (simp_all [idxOk, cutOk, leB]; done) | (simp_all [idxOk, cutOk, leB]; omega) | (simp [idxOk, cutOk, leB] at *; omega) | (have hf0 := h_x0.1; have hf1 := h_x1.1; simp only [leB, decide_eq_true_eq, List.length_append, List.length_cons, List.length_nil]; omega)) (StE.chk (by first | exact idx_ok (by omega) | exact idx_ok (by have hq := len_eq (by assumption); omega) | exact idx_found (show (0 : Int) ≤ (i0 : Int) by simp_all) | exact cut_ok (by omega) | exact or_ok (idx_ok (by omega)) | (refine or1 (fun hz => pre_ok (by simp at hz; omega) (by omega) (by omega))) | exact pre_ok (by omega) (by omega) (by omega) | (simp_all [idxOk, cutOk, leB]; done) | (simp_all [idxOk, cutOk, leB]; omega) | (simp [idxOk, cutOk, leB] at *; omega) | (have hf0 := h_x0.1; have hf1 := h_x1.1; simp only [leB, decide_eq_true_eq, List.length_append, List.length_cons, List.length_nil]; omega)) (StE.ifh (fun hc1 => (StE.ret _)) (fun hc1 => StE.next))))) (fun j hj => by
  simp only [spec_l2Ints.l0_s]
  exact Evt.f (ge_lt hj) (Evt.self _))) (fun _ => rfl) (Evt.self _))))
def spec_l2Same_v (x0 : Rule) (x1 : Rule) : Bool := (((x0.fNeed == x1.fNeed) && (x0.fAfter == x1.fAfter)) && (bif ((x0.fNeed == x1.fNeed) && (x0.fAfter == x1.fAfter)) then (spec_l2Ints_v x0.fKeys x1.fKeys) else default))
theorem spec_l2Same_ev (x0 : Rule) (x1 : Rule) (h_x0 : smRule x0) (h_x1 : smRule x1) : Evt (fun k => spec_l2Same.f k x0 x1) (spec_l2Same_v x0 x1) :=
  (Evt.bind (Evt.ifh (fun _ => (spec_l2Ints_ev x0.fKeys x1.fKeys (h_x0.1) (h_x1.1))) (fun _ => Evt.self _)) (Evt.self _))
def madeBad (x1 : Tx) (c : Coin) : Bool := (decide ((x1.fOuts.length : Int) ≤ c.fRef.fAt) || (c.fOut.fValue != (gt x1.fOuts c.fRef.fAt).fValue)) || (!(spec_l2Same_v c.fOut.fRule (gt x1.fOuts c.fRef.fAt).fRule))
def ofId (x0 : List Coin) (x2 : Int) : List Coin := x0.filter (fun c => c.fRef.fTx == x2)
def spec_l5Made_v (x0 : List Coin) (x1 : Tx) (x2 : Int) : Bool := bif (ofId x0 x2).any (madeBad x1) then false else (((ofId x0 x2).length : Int) == (x1.fOuts.length : Int))
theorem bor_n {p d e : Bool} : (p || (!(bif !p then d else e))) = (p || (!d)) := by cases p <;> rfl
theorem l5Made_loop (x0 : List Coin) (x1 : Tx) (x2 : Int) (h0 : Lm smCoin x0) (h1 : smTx x1) (hA : ∀ c ∈ x0, 0 ≤ c.fRef.fAt) : ∀ (d i n : Nat), i + d = x0.length → n ≤ i → Evt (fun k => spec_l5Made.l0 x0 x1 x2 k (n : Int) (i : Int)) (bif (ofId (x0.drop i) x2).any (madeBad x1) then .inl false else .inr ((n + (ofId (x0.drop i) x2).length : Nat) : Int))
  | 0, i, n, hd, hn => by
    refine Evt.s ?_
    simp only [spec_l5Made.l0_s]
    rw [List.drop_of_length_le (by omega)]
    exact Evt.f (ge_lt (by omega)) (Evt.ret (by simp [ofId]))
  | d + 1, i, n, hd, hn => by
    have hl := h0.1
    have hi : i < x0.length := by omega
    have hm := gt_mem hi
    have ed : x0.drop i = gt x0 (i : Int) :: x0.drop (i + 1) := by rw [gt_eq (by simpa using hi)]; simp only [Int.toNat_natCast]; exact List.drop_eq_getElem_cons hi
    have ih := fun n hn => l5Made_loop x0 x1 x2 h0 h1 hA d (i + 1) n (by omega) hn
    have hsm := h0.2 _ hm
    have hat := hA _ hm
    refine Evt.s ?_
    simp only [spec_l5Made.l0_s]
    rw [ed]
    rw [w64 hi (by omega), w64 (show n < x0.length by omega) (by omega)]
    generalize gt x0 (i : Int) = c at *
    refine Evt.t (int_lt hi) (Evt.chk (idx_ok hi) ?_)
    unfold ofId
    rw [List.filter_cons]
    cases ht : c.fRef.fTx != x2
    · have ht2 : (c.fRef.fTx == x2) = true := by simpa using ht
      rw [ht2]
      simp only [if_true]
      rw [List.any_cons, List.length_cons]
      have hix : decide ((x1.fOuts.length : Int) ≤ c.fRef.fAt) = false → idxOk c.fRef.fAt x1.fOuts.length = true := fun hz => by
        have := of_decide_eq_false hz
        unfold idxOk; simp; omega
      refine Evt.f rfl (Evt.chk (idx_ok hi) (Evt.chk (or_ok (idx_ok hi)) (Evt.chk (or1 fun hz => hix (notT hz)) (Evt.chk (or_ok (idx_ok hi)) (Evt.chk (or1 fun hz => hix (Bool.or_eq_false_iff.1 (notT hz)).1)
        (Evt.bind (a := bif !(decide ((x1.fOuts.length : Int) ≤ c.fRef.fAt) || (c.fOut.fValue != (gt x1.fOuts c.fRef.fAt).fValue)) then spec_l2Same_v c.fOut.fRule (gt x1.fOuts c.fRef.fAt).fRule else default) (Evt.ifh (fun hz => ?_) (fun _ => Evt.self _)) ?_))))))
      · have h5 := idx_lo (hix (Bool.or_eq_false_iff.1 (notT hz)).1)
        have h6 := idx_hi (hix (Bool.or_eq_false_iff.1 (notT hz)).1)
        obtain ⟨m, em⟩ := Int.eq_ofNat_of_zero_le h5
        rw [em] at h6 ⊢
        exact spec_l2Same_ev _ _ hsm.2.1.2 (h1.2.2.2.2 _ (gt_mem (by omega))).2
      · rw [bor_n]
        show Evt (fun k => bif madeBad x1 c then _ else _) _
        cases hb : madeBad x1 c
        · refine Evt.f rfl ?_
          rw [Bool.false_or]
          refine (ih (n + 1) (by omega)).to ?_
          unfold ofId
          rw [show n + 1 + (List.filter (fun c => c.fRef.fTx == x2) (List.drop (i + 1) x0)).length = n + ((List.filter (fun c => c.fRef.fTx == x2) (List.drop (i + 1) x0)).length + 1) by omega]
        · exact Evt.t rfl (Evt.ret (by simp))
    · have ht2 : (c.fRef.fTx == x2) = false := by simpa using ht
      rw [ht2]
      simp only [Bool.false_eq_true, if_false]
      exact Evt.t rfl (ih n (by omega))
theorem spec_l5Made_ev (x0 : List Coin) (x1 : Tx) (x2 : Int) (h0 : Lm smCoin x0) (h1 : smTx x1) (hA : ∀ c ∈ x0, 0 ≤ c.fRef.fAt) : Evt (fun k => spec_l5Made.f k x0 x1 x2) (spec_l5Made_v x0 x1 x2) := by
  have h := l5Made_loop x0 x1 x2 h0 h1 hA x0.length 0 0 (by omega) (Nat.le_refl _)
  rw [List.drop_zero] at h
  unfold spec_l5Made_v
  cases hb : (ofId x0 x2).any (madeBad x1)
  · rw [hb] at h
    refine Evt.bind h ?_
    exact Evt.ret (by simp)
  · rw [hb] at h
    exact Evt.bind h (Evt.self _)
def spec_l4At_v (x0 : List Coin) (x1 : Ref) : Int := (onO ((List.range' 0 (x0.length - 0)).findSome? (fun (i0 : Nat) => (bif ((((gt x0 (i0 : Int)).fRef.fTx) == x1.fTx) && (((gt x0 (i0 : Int)).fRef.fAt) == x1.fAt)) then (some (i0 : Int)) else none))) (fun r => r) (-1))
theorem spec_l4At_ev (x0 : List Coin) (x1 : Ref) (h_x0 : (Lm smCoin) x0) : Evt (fun k => spec_l4At.f k x0 x1) (spec_l4At_v x0 x1) :=
  (Evt.loop (r' := fun r => r) (Evt.srch (L := (fun k i => spec_l4At.l0 x0 x1 k i)) 0 x0.length (by have := h_x0; first | (have := this.1; omega) | omega) (fun (i0 : Nat) => (bif ((((gt x0 (i0 : Int)).fRef.fTx) == x1.fTx) && (((gt x0 (i0 : Int)).fRef.fAt) == x1.fAt)) then (some (i0 : Int)) else none)) (fun i0 hs2 hi2 => by
  have hbn : x0.length ≤ 9223372036854775807 := (by have := h_x0; first | (have := this.1; omega) | omega)
  simp only [spec_l4At.l0_s]
  exact Evt_t2 (int_lt hi2) (StE.chk (by first | exact idx_ok (by omega) | exact idx_ok (by have hq := len_eq (by assumption); omega) | exact idx_found (show (0 : Int) ≤ (i0 : Int) by simp_all) | exact cut_ok (by omega) | exact or_ok (idx_ok (by omega)) | (refine or1 (fun hz => pre_ok (by simp at hz; omega) (by omega) (by omega))) | exact pre_ok (by omega) (by omega) (by omega) | (simp_all [idxOk, cutOk, leB]; done) | (simp_all [idxOk, cutOk, leB]; omega) | (simp [idxOk, cutOk, leB] at *; omega) | (have hf0 := h_x0.1; simp only [leB, decide_eq_true_eq, List.length_append, List.length_cons, List.length_nil]; omega)) (StE.ifh (fun hc1 => (StE.ret _)) (fun hc1 => StE.next)))) (fun j hj => by
  simp only [spec_l4At.l0_s]
  exact Evt.f (ge_lt hj) (Evt.self _))) (fun _ => rfl) (Evt.self _))
def addN (l : List Coin) (r : Ref) : Nat := (l.takeWhile fun c => spec_l4Ahead_v c.fRef r).length
def spec_l4Add_v (l : List Coin) (x : Coin) : List Coin := l.take (addN l x.fRef) ++ [x] ++ l.drop (addN l x.fRef)
theorem addN_le (l : List Coin) (r : Ref) : addN l r ≤ l.length := (List.takeWhile_sublist _).length_le
theorem l4Add_loop (x0 : List Coin) (x1 : Coin) (hn : x0.length ≤ 100000000) : ∀ (suf pre : List Coin), x0 = pre ++ suf → Evt (fun k => spec_l4Add.l0 x0 x1 k (pre.length : Int)) ((pre.length + addN suf x1.fRef : Nat) : Int)
  | [], pre, h => by
    have hl : x0.length = pre.length := by rw [h]; simp
    have e : decide ((pre.length : Int) < (x0.length : Int)) = false := ge_lt (by omega)
    refine Evt.s ?_
    simp only [spec_l4Add.l0_s, e]
    exact Evt.chk rfl (Evt.bind (Evt.f rfl (Evt.self _)) (Evt.f rfl (Evt.self _)))
  | c :: suf, pre, h => by
    have hl : x0.length = pre.length + (suf.length + 1) := by rw [h]; simp
    have hlt : pre.length < x0.length := by omega
    have hg : gt x0 (pre.length : Int) = c := by
      rw [gt_eq (by simpa using hlt)]
      simp only [Int.toNat_natCast, h]
      rw [List.getElem_append_right (Nat.le_refl _)]
      simp
    refine Evt.s ?_
    simp only [spec_l4Add.l0_s, hg, int_lt hlt]
    refine Evt.chk (or_ok (idx_ok hlt)) (Evt.bind (Evt.t rfl (spec_l4Ahead_ev c.fRef x1.fRef)) ?_)
    cases hc : spec_l4Ahead_v c.fRef x1.fRef
    · refine Evt.f rfl (Evt.ret ?_)
      unfold addN
      rw [List.takeWhile_cons, hc]; simp
    · refine Evt.t rfl ?_
      rw [w64 hlt (by omega)]
      have := l4Add_loop x0 x1 hn suf (pre ++ [c]) (by rw [h]; simp)
      rw [List.length_append, List.length_cons, List.length_nil] at this
      refine this.to ?_
      unfold addN
      rw [List.takeWhile_cons, hc]
      simp only [if_true, List.length_cons]
      congr 1; omega
theorem l4Add_ev (x0 : List Coin) (x1 : Coin) (hn : x0.length ≤ 100000000) : Evt (fun k => spec_l4Add.f k x0 x1) (spec_l4Add_v x0 x1) := by
  have h := l4Add_loop x0 x1 hn x0 [] rfl
  simp only [List.length_nil, Nat.zero_add] at h
  have hle := addN_le x0 x1.fRef
  refine Evt.bind h (Evt.chk (cut_ok hle) (Evt.chk (leB_of (by simp; omega)) (Evt.chk (cut_ok hle) (Evt.chk (leB_of (by simp; omega)) (Evt.chk (leB_of (by simp; omega)) (Evt.chk (decide_eq_true (Nat.le_refl _)) (Evt.ret ?_)))))))
  unfold spec_l4Add_v
  simp only [Int.toNat_natCast]
theorem l4Add_nil (x : Coin) : spec_l4Add_v [] x = [x] := rfl
theorem l4Add_cons (c : Coin) (l : List Coin) (x : Coin) : spec_l4Add_v (c :: l) x = if spec_l4Ahead_v c.fRef x.fRef = true then c :: spec_l4Add_v l x else x :: c :: l := by
  unfold spec_l4Add_v addN
  rw [List.takeWhile_cons]
  by_cases h : spec_l4Ahead_v c.fRef x.fRef = true
  · rw [if_pos h, if_pos h]; simp
  · rw [if_neg h, if_neg h]; simp
theorem l4Add_perm (x : Coin) : ∀ l : List Coin, (spec_l4Add_v l x).Perm (l ++ [x])
  | [] => .refl _
  | c :: l => by
    rw [l4Add_cons]
    split
    · exact (l4Add_perm x l).cons c
    · exact (List.perm_append_singleton x (c :: l)).symm
theorem l4Add2_loop (x0 : List Coin) (x1 : Coin) : ∀ (k : Nat) (a : Int), spec_l4Add_v2.l0 x0 x1 k a = spec_l4Add.l0 x0 x1 k a
  | 0, a => rfl
  | k + 1, a => by rw [spec_l4Add_v2.l0_s, spec_l4Add.l0_s]; simp only [l4Add2_loop x0 x1 k]
theorem l4Add2_ev (x0 : List Coin) (x1 : Coin) (hn : x0.length ≤ 100000000) : Evt (fun k => spec_l4Add_v2.f k x0 x1) (spec_l4Add_v x0 x1) := (l4Add_ev x0 x1 hn).congr fun k => by
  unfold spec_l4Add_v2.f spec_l4Add.f
  rw [l4Add2_loop]
theorem l4Add_len' (l : List Coin) (x : Coin) : (spec_l4Add_v l x).length = l.length + 1 := by rw [(l4Add_perm x l).length_eq]; simp
def notId (x0 : List Coin) (x1 : Int) : List Coin := x0.filter (fun c => c.fRef.fTx != x1)
def spec_l5Back_v (x0 : List Coin) (x1 : Int) (x2 : List Coin) : List Coin := x2.foldl spec_l4Add_v (notId x0 x1)
theorem l5Back_l0 (x0 : List Coin) (x1 : Int) (h0 : Lm smCoin x0) : ∀ (d i : Nat) (s : List Coin), i + d = x0.length → s.length ≤ i → Evt (fun k => spec_l5Back.l0 x0 x1 k s (i : Int)) (s ++ notId (x0.drop i) x1)
  | 0, i, s, hd, hs => by
    refine Evt.s ?_
    simp only [spec_l5Back.l0_s]
    rw [List.drop_of_length_le (by omega)]
    exact Evt.f (ge_lt (by omega)) (Evt.ret (by simp [notId]))
  | d + 1, i, s, hd, hs => by
    have hl := h0.1
    have hi : i < x0.length := by omega
    have ed : x0.drop i = gt x0 (i : Int) :: x0.drop (i + 1) := by rw [gt_eq (by simpa using hi)]; simp only [Int.toNat_natCast]; exact List.drop_eq_getElem_cons hi
    refine Evt.s ?_
    simp only [spec_l5Back.l0_s]
    rw [ed, w64 hi (by omega)]
    unfold notId
    rw [List.filter_cons]
    refine Evt.t (int_lt hi) (Evt.chk (idx_ok hi) ?_)
    cases ht : (gt x0 (i : Int)).fRef.fTx != x1
    · exact Evt.f rfl (l5Back_l0 x0 x1 h0 d (i + 1) s (by omega) (by omega))
    · refine Evt.t rfl (Evt.chk (idx_ok hi) (Evt.chk (leB_of (by simp; omega)) ?_))
      refine (l5Back_l0 x0 x1 h0 d (i + 1) _ (by omega) (by simp; omega)).to ?_
      simp [notId]
theorem l5Back_l1 (x2 : List Coin) (h2 : Lm smCoin x2) : ∀ (d i : Nat) (s : List Coin), i + d = x2.length → s.length + d ≤ 10000000 → Evt (fun k => spec_l5Back.l1 x2 k s (i : Int)) ((x2.drop i).foldl spec_l4Add_v s)
  | 0, i, s, hd, hs => by
    refine Evt.s ?_
    simp only [spec_l5Back.l1_s]
    rw [List.drop_of_length_le (by omega)]
    exact Evt.f (ge_lt (by omega)) (Evt.self _)
  | d + 1, i, s, hd, hs => by
    have hl := h2.1
    have hi : i < x2.length := by omega
    have ed : x2.drop i = gt x2 (i : Int) :: x2.drop (i + 1) := by rw [gt_eq (by simpa using hi)]; simp only [Int.toNat_natCast]; exact List.drop_eq_getElem_cons hi
    refine Evt.s ?_
    simp only [spec_l5Back.l1_s]
    rw [ed, w64 hi (by omega), List.foldl_cons]
    exact Evt.t (int_lt hi) (Evt.chk (idx_ok hi) (Evt.bind (l4Add2_ev _ _ (by omega)) (l5Back_l1 x2 h2 d (i + 1) _ (by omega) (by rw [l4Add_len']; omega))))
theorem l5Back_perm : ∀ (x2 s : List Coin), (x2.foldl spec_l4Add_v s).Perm (s ++ x2)
  | [], s => by simp
  | x :: x2, s => by
    rw [List.foldl_cons]
    refine (l5Back_perm x2 _).trans ?_
    have := (l4Add_perm x s).append_right x2
    simpa using this
theorem notId_sub (x0 : List Coin) (x1 : Int) : (notId x0 x1).Sublist x0 := List.filter_sublist
theorem back_sm (x0 : List Coin) (x1 : Int) (x2 : List Coin) (h0 : Lm smCoin x0) (h2 : Lm smCoin x2) (hl : x0.length + x2.length ≤ 1048576) : Lm smCoin (spec_l5Back_v x0 x1 x2) := by
  have hp : (spec_l5Back_v x0 x1 x2).Perm (notId x0 x1 ++ x2) := l5Back_perm x2 _
  have h3 := (notId_sub x0 x1).length_le
  refine ⟨?_, fun c hc => ?_⟩
  · rw [hp.length_eq, List.length_append]; omega
  · rcases List.mem_append.1 (hp.mem_iff.1 hc) with hc | hc
    · exact h0.2 c ((notId_sub x0 x1).subset hc)
    · exact h2.2 c hc
theorem spec_l5Back_ev (x0 : List Coin) (x1 : Int) (x2 : List Coin) (h0 : Lm smCoin x0) (h2 : Lm smCoin x2) (hl : x0.length + x2.length ≤ 1048576) : Evt (fun k => spec_l5Back.f k x0 x1 x2) (spec_l5Back_v x0 x1 x2) := by
  have e1 := l5Back_l0 x0 x1 h0 x0.length 0 [] (by omega) (by simp)
  rw [List.drop_zero, List.nil_append] at e1
  have h3 := (notId_sub x0 x1).length_le
  have e2 := l5Back_l1 x2 h2 x2.length 0 (notId x0 x1) (by omega) (by omega)
  rw [List.drop_zero] at e2
  have e3 := spec_l4Copy_ev (spec_l5Back_v x0 x1 x2) (back_sm x0 x1 x2 h0 h2 hl)
  rw [l4Copy_id] at e3
  exact Evt.bind e1 (Evt.bind e2 (Evt.bind e3 (Evt.self _)))
def impl_within_v (x0 : Int) (x1 : Int) (x2 : Int) : Bool := ((decide (x1 ≤ x0)) && (decide (x0 ≤ x2)))
theorem impl_within_ev (x0 : Int) (x1 : Int) (x2 : Int)  : Evt (fun k => impl_within.f k x0 x1 x2) (impl_within_v x0 x1 x2) :=
  (Evt.self _)
def impl_isId_v (x0 : Int) : Bool := (impl_within_v x0 1 60)
theorem impl_isId_ev (x0 : Int)  : Evt (fun k => impl_isId.f k x0) (impl_isId_v x0) :=
  (Evt.bind (impl_within_ev x0 1 60) (Evt.self _))
def impl_isRef_v (x0 : Ref) : Bool := ((impl_isId_v x0.fTx) && (bif (impl_isId_v x0.fTx) then (impl_within_v x0.fAt 0 3) else default))
theorem impl_isRef_ev (x0 : Ref)  : Evt (fun k => impl_isRef.f k x0) (impl_isRef_v x0) :=
  (Evt.bind (impl_isId_ev x0.fTx) (Evt.bind (Evt.ifh (fun _ => (impl_within_ev x0.fAt 0 3)) (fun _ => Evt.self _)) (Evt.self _)))
def impl_isHeight_v (x0 : Int) : Bool := (impl_within_v x0 0 999)
theorem impl_isHeight_ev (x0 : Int)  : Evt (fun k => impl_isHeight.f k x0) (impl_isHeight_v x0) :=
  (Evt.bind (impl_within_ev x0 0 999) (Evt.self _))
def impl_isKey_v (x0 : Int) : Bool := (impl_within_v x0 1 999)
theorem impl_isKey_ev (x0 : Int)  : Evt (fun k => impl_isKey.f k x0) (impl_isKey_v x0) :=
  (Evt.bind (impl_within_ev x0 1 999) (Evt.self _))
def impl_areKeys_1_v (x0 : Int) : Bool := (!(impl_isKey_v x0))
theorem impl_areKeys_1_ev (x0 : Int)  : Evt (fun k => impl_areKeys_1.f k x0) (impl_areKeys_1_v x0) :=
  (Evt.bind (impl_isKey_ev x0) (Evt.self _))
def slices_IndexFunc_int64_v (x0 : List Int) : Int := (onO ((List.range' 0 (x0.length - 0)).findSome? (fun (i0 : Nat) => (bif (impl_areKeys_1_v (gt x0 (i0 : Int))) then (some (i0 : Int)) else none))) (fun r => r) (-1))
theorem slices_IndexFunc_int64_ev (x0 : List Int) (h_x0 : (Lm tr) x0) : Evt (fun k => slices_IndexFunc_int64.f k x0) (slices_IndexFunc_int64_v x0) :=
  (Evt.loop (r' := fun r => r) (Evt.srch (L := (fun k i => slices_IndexFunc_int64.l0 x0 k i)) 0 x0.length (by have := h_x0; first | (have := this.1; omega) | omega) (fun (i0 : Nat) => (bif (impl_areKeys_1_v (gt x0 (i0 : Int))) then (some (i0 : Int)) else none)) (fun i0 hs2 hi2 => by
  have hbn : x0.length ≤ 9223372036854775807 := (by have := h_x0; first | (have := this.1; omega) | omega)
  simp only [slices_IndexFunc_int64.l0_s]
  exact Evt_t2 (int_lt hi2) (StE.chk (by first | exact idx_ok (by omega) | exact idx_ok (by have hq := len_eq (by assumption); omega) | exact idx_found (show (0 : Int) ≤ (i0 : Int) by simp_all) | exact cut_ok (by omega) | exact or_ok (idx_ok (by omega)) | (refine or1 (fun hz => pre_ok (by simp at hz; omega) (by omega) (by omega))) | exact pre_ok (by omega) (by omega) (by omega) | (simp_all [idxOk, cutOk, leB]; done) | (simp_all [idxOk, cutOk, leB]; omega) | (simp [idxOk, cutOk, leB] at *; omega) | (have hf0 := h_x0.1; simp only [leB, decide_eq_true_eq, List.length_append, List.length_cons, List.length_nil]; omega)) (StE.bind (impl_areKeys_1_ev (gt x0 (i0 : Int))) (StE.ifh (fun hc1 => (StE.ret _)) (fun hc1 => StE.next))))) (fun j hj => by
  simp only [slices_IndexFunc_int64.l0_s]
  exact Evt.f (ge_lt hj) (Evt.self _))) (fun _ => rfl) (Evt.self _))
def slices_ContainsFunc_int64_v (x0 : List Int) : Bool := (decide (0 ≤ (slices_IndexFunc_int64_v x0)))
theorem slices_ContainsFunc_int64_ev (x0 : List Int) (h_x0 : (Lm tr) x0) : Evt (fun k => slices_ContainsFunc_int64.f k x0) (slices_ContainsFunc_int64_v x0) :=
  (Evt.bind (slices_IndexFunc_int64_ev x0 (h_x0)) (Evt.self _))
theorem slices_ContainsFunc_int64_any (x0 : List Int) : slices_ContainsFunc_int64_v x0 = (List.range' 0 (x0.length - 0)).any (fun (i0 : Nat) => (impl_areKeys_1_v (gt x0 (i0 : Int)))) := idx_any _ _
def impl_areKeys_v (x0 : List Int) : Bool := (!(slices_ContainsFunc_int64_v x0))
theorem impl_areKeys_ev (x0 : List Int) (h_x0 : (Lm tr) x0) : Evt (fun k => impl_areKeys.f k x0) (impl_areKeys_v x0) :=
  (Evt.bind (slices_ContainsFunc_int64_ev x0 (h_x0)) (Evt.self _))
def impl_isRising_v (x0 : List Int) : Bool := (onO ((List.range' 1 (x0.length - 1)).findSome? (fun (i0 : Nat) => (bif (decide ((gt x0 (i0 : Int)) ≤ (gt x0 (wrap64 ((i0 : Int) - 1))))) then (some false) else none))) (fun r => r) true)
theorem impl_isRising_ev (x0 : List Int) (h_x0 : (Lm tr) x0) : Evt (fun k => impl_isRising.f k x0) (impl_isRising_v x0) :=
  (Evt.loop (r' := fun r => r) (Evt.srch (L := (fun k i => impl_isRising.l0 x0 k i)) 1 x0.length (by have := h_x0; first | (have := this.1; omega) | omega) (fun (i0 : Nat) => (bif (decide ((gt x0 (i0 : Int)) ≤ (gt x0 (wrap64 ((i0 : Int) - 1))))) then (some false) else none)) (fun i0 hs2 hi2 => by
  have hbn : x0.length ≤ 9223372036854775807 := (by have := h_x0; first | (have := this.1; omega) | omega)
  simp only [impl_isRising.l0_s]
  exact Evt_t2 (int_lt hi2) (StE.chk (by first | exact idx_ok (by omega) | exact idx_ok (by have hq := len_eq (by assumption); omega) | exact idx_found (show (0 : Int) ≤ (i0 : Int) by simp_all) | exact cut_ok (by omega) | exact or_ok (idx_ok (by omega)) | (refine or1 (fun hz => pre_ok (by simp at hz; omega) (by omega) (by omega))) | exact pre_ok (by omega) (by omega) (by omega) | (simp_all [idxOk, cutOk, leB]; done) | (simp_all [idxOk, cutOk, leB]; omega) | (simp [idxOk, cutOk, leB] at *; omega) | (have hf0 := h_x0.1; simp only [leB, decide_eq_true_eq, List.length_append, List.length_cons, List.length_nil]; omega)) (StE.chk (by first | exact idx_ok (by omega) | exact idx_ok (by have hq := len_eq (by assumption); omega) | exact idx_found (show (0 : Int) ≤ (wrap64 ((i0 : Int) - 1)) by simp_all) | exact cut_ok (by omega) | exact or_ok (idx_ok (by omega)) | (refine or1 (fun hz => pre_ok (by simp at hz; omega) (by omega) (by omega))) | exact pre_ok (by omega) (by omega) (by omega) | (simp_all [idxOk, cutOk, leB]; done) | (simp_all [idxOk, cutOk, leB]; omega) | (simp [idxOk, cutOk, leB] at *; omega) | (have hf0 := h_x0.1; simp only [leB, decide_eq_true_eq, List.length_append, List.length_cons, List.length_nil]; omega)) (StE.ifh (fun hc1 => (StE.ret _)) (fun hc1 => StE.next))))) (fun j hj => by
  simp only [impl_isRising.l0_s]
  exact Evt.f (ge_lt hj) (Evt.self _))) (fun _ => rfl) (Evt.self _))
def impl_RuleFault_v (x0 : Rule) : Int := (bif !(impl_within_v (x0.fKeys.length : Int) 1 3) then 2 else (bif (((!(impl_areKeys_v x0.fKeys)) || (!(bif (!(!(impl_areKeys_v x0.fKeys))) then (impl_within_v x0.fNeed 1 (x0.fKeys.length : Int)) else default))) || (!(bif (!((!(impl_areKeys_v x0.fKeys)) || (!(bif (!(!(impl_areKeys_v x0.fKeys))) then (impl_within_v x0.fNeed 1 (x0.fKeys.length : Int)) else default)))) then (impl_isHeight_v x0.fAfter) else default))) then 3 else (bif !(impl_isRising_v x0.fKeys) then 1 else 0)))
theorem impl_RuleFault_ev (x0 : Rule) (h_x0 : smRule x0) : Evt (fun k => impl_RuleFault.f k x0) (impl_RuleFault_v x0) :=
  (Evt.bind (impl_within_ev (x0.fKeys.length : Int) 1 3) (Evt.ifh (fun hc2 => (Evt.self _)) (fun hc2 => (Evt.bind (impl_areKeys_ev x0.fKeys (h_x0.1)) (Evt.bind (Evt.ifh (fun _ => (impl_within_ev x0.fNeed 1 (x0.fKeys.length : Int))) (fun _ => Evt.self _)) (Evt.bind (Evt.ifh (fun _ => (impl_isHeight_ev x0.fAfter)) (fun _ => Evt.self _)) (Evt.ifh (fun hc1 => (Evt.self _)) (fun hc1 => (Evt.bind (impl_isRising_ev x0.fKeys (h_x0.1)) (Evt.ifh (fun hc0 => (Evt.self _)) (fun hc0 => (Evt.self _))))))))))))
theorem ruleFault_same (x0 : Rule) : impl_RuleFault_v x0 = spec_l2Fault_v x0 := by
  simp only [impl_RuleFault_v, spec_l2Fault_v, impl_areKeys_v, slices_ContainsFunc_int64_any, impl_areKeys_1_v, impl_isKey_v, spec_l1Key_v, impl_within_v, spec_l1In_v, impl_isHeight_v, spec_l2Height_v, impl_isRising_v, found_any]
  generalize (List.range' 0 (x0.fKeys.length - 0)).any _ = a
  generalize (List.range' 1 (x0.fKeys.length - 1)).any _ = b
  generalize (decide (1 ≤ x0.fNeed) && decide (x0.fNeed ≤ (x0.fKeys.length : Int))) = c
  generalize (decide (0 ≤ x0.fAfter) && decide (x0.fAfter ≤ 999)) = d
  generalize (decide (1 ≤ (x0.fKeys.length : Int)) && decide ((x0.fKeys.length : Int) ≤ 3)) = e
  cases a <;> cases b <;> cases c <;> cases d <;> cases e <;> rfl
def cmp_isNaN_int64_v (x0 : Int) : Bool := (x0 != x0)
theorem cmp_isNaN_int64_ev (x0 : Int)  : Evt (fun k => cmp_isNaN_int64.f k x0) (cmp_isNaN_int64_v x0) :=
  (Evt.self _)
def cmp_Compare_int64_v (x0 : Int) (x1 : Int) : Int := (bif (cmp_isNaN_int64_v x0) then (bif (cmp_isNaN_int64_v x1) then 0 else (-1)) else (bif (cmp_isNaN_int64_v x1) then 1 else (bif (decide (x0 < x1)) then (-1) else (bif (decide (x1 < x0)) then 1 else 0))))
theorem cmp_Compare_int64_ev (x0 : Int) (x1 : Int)  : Evt (fun k => cmp_Compare_int64.f k x0 x1) (cmp_Compare_int64_v x0 x1) :=
  (Evt.bind (cmp_isNaN_int64_ev x0) (Evt.bind (cmp_isNaN_int64_ev x1) (Evt.ifh (fun hc4 => (Evt.ifh (fun hc0 => (Evt.self _)) (fun hc0 => (Evt.self _)))) (fun hc4 => (Evt.ifh (fun hc3 => (Evt.self _)) (fun hc3 => (Evt.ifh (fun hc2 => (Evt.self _)) (fun hc2 => (Evt.ifh (fun hc1 => (Evt.self _)) (fun hc1 => (Evt.self _)))))))))))
def cmp_Or_int_v (x0 : List Int) : Int := (onO ((List.range' 0 (x0.length - 0)).findSome? (fun (i0 : Nat) => (bif ((gt x0 (i0 : Int)) != 0) then (some (gt x0 (i0 : Int))) else none))) (fun r => r) 0)
theorem cmp_Or_int_ev (x0 : List Int) (h_x0 : (Lm tr) x0) : Evt (fun k => cmp_Or_int.f k x0) (cmp_Or_int_v x0) :=
  (Evt.loop (r' := fun r => r) (Evt.srch (L := (fun k i => cmp_Or_int.l0 x0 k i)) 0 x0.length (by have := h_x0; first | (have := this.1; omega) | omega) (fun (i0 : Nat) => (bif ((gt x0 (i0 : Int)) != 0) then (some (gt x0 (i0 : Int))) else none)) (fun i0 hs2 hi2 => by
  have hbn : x0.length ≤ 9223372036854775807 := (by have := h_x0; first | (have := this.1; omega) | omega)
  simp only [cmp_Or_int.l0_s]
  exact Evt_t2 (int_lt hi2) (StE.chk (by first | exact idx_ok (by omega) | exact idx_ok (by have hq := len_eq (by assumption); omega) | exact idx_found (show (0 : Int) ≤ (i0 : Int) by simp_all) | exact cut_ok (by omega) | exact or_ok (idx_ok (by omega)) | (refine or1 (fun hz => pre_ok (by simp at hz; omega) (by omega) (by omega))) | exact pre_ok (by omega) (by omega) (by omega) | (simp_all [idxOk, cutOk, leB]; done) | (simp_all [idxOk, cutOk, leB]; omega) | (simp [idxOk, cutOk, leB] at *; omega) | (have hf0 := h_x0.1; simp only [leB, decide_eq_true_eq, List.length_append, List.length_cons, List.length_nil]; omega)) (StE.ifh (fun hc1 => (StE.ret _)) (fun hc1 => StE.next)))) (fun j hj => by
  simp only [cmp_Or_int.l0_s]
  exact Evt.f (ge_lt hj) (Evt.self _))) (fun _ => rfl) (Evt.self _))
def impl_compareRefs_v (x0 : Ref) (x1 : Ref) : Int := (cmp_Or_int_v ([(cmp_Compare_int64_v x0.fTx x1.fTx), (cmp_Compare_int64_v x0.fAt x1.fAt)] : List Int))
theorem impl_compareRefs_ev (x0 : Ref) (x1 : Ref)  : Evt (fun k => impl_compareRefs.f k x0 x1) (impl_compareRefs_v x0 x1) :=
  (Evt.bind (cmp_Compare_int64_ev x0.fTx x1.fTx) (Evt.bind (cmp_Compare_int64_ev x0.fAt x1.fAt) (Evt.bind (cmp_Or_int_ev ([(cmp_Compare_int64_v x0.fTx x1.fTx), (cmp_Compare_int64_v x0.fAt x1.fAt)] : List Int) ((⟨by simp, fun _ _ => trivial⟩ : Lm tr ([(cmp_Compare_int64_v x0.fTx x1.fTx), (cmp_Compare_int64_v x0.fAt x1.fAt)] : List Int)))) (Evt.self _))))
def impl_CoinsFault_v (x0 : List Coin) : Int := (bif (decide (40 < (x0.length : Int))) then 2 else (onO ((List.range' 0 (x0.length - 0)).findSome? (fun (i0 : Nat) => (bif (((!(impl_isRef_v ((gt x0 (i0 : Int)).fRef))) || (!(bif (!(!(impl_isRef_v ((gt x0 (i0 : Int)).fRef)))) then (impl_isHeight_v ((gt x0 (i0 : Int)).fHeight)) else default))) || (!(bif (!((!(impl_isRef_v ((gt x0 (i0 : Int)).fRef))) || (!(bif (!(!(impl_isRef_v ((gt x0 (i0 : Int)).fRef)))) then (impl_isHeight_v ((gt x0 (i0 : Int)).fHeight)) else default)))) then (impl_within_v ((gt x0 (i0 : Int)).fOut.fValue) 1 1000000) else default))) then (some 3) else (bif ((impl_RuleFault_v ((gt x0 (i0 : Int)).fOut.fRule)) != 0) then (some (impl_RuleFault_v ((gt x0 (i0 : Int)).fOut.fRule))) else (bif ((decide (0 < (i0 : Int))) && (decide (0 ≤ (bif (decide (0 < (i0 : Int))) then (impl_compareRefs_v ((gt x0 (wrap64 ((i0 : Int) - 1))).fRef) ((gt x0 (i0 : Int)).fRef)) else default)))) then (some 1) else none))))) (fun r => r) 0))
theorem impl_CoinsFault_ev (x0 : List Coin) (h_x0 : (Lm smCoin) x0) : Evt (fun k => impl_CoinsFault.f k x0) (impl_CoinsFault_v x0) :=
  (Evt.ifh (fun hc4 => (Evt.self _)) (fun hc4 => (Evt.loop (r' := fun r => r) (Evt.srch (L := (fun k i => impl_CoinsFault.l0 x0 k i)) 0 x0.length (by have := h_x0; first | (have := this.1; omega) | omega) (fun (i0 : Nat) => (bif (((!(impl_isRef_v ((gt x0 (i0 : Int)).fRef))) || (!(bif (!(!(impl_isRef_v ((gt x0 (i0 : Int)).fRef)))) then (impl_isHeight_v ((gt x0 (i0 : Int)).fHeight)) else default))) || (!(bif (!((!(impl_isRef_v ((gt x0 (i0 : Int)).fRef))) || (!(bif (!(!(impl_isRef_v ((gt x0 (i0 : Int)).fRef)))) then (impl_isHeight_v ((gt x0 (i0 : Int)).fHeight)) else default)))) then (impl_within_v ((gt x0 (i0 : Int)).fOut.fValue) 1 1000000) else default))) then (some 3) else (bif ((impl_RuleFault_v ((gt x0 (i0 : Int)).fOut.fRule)) != 0) then (some (impl_RuleFault_v ((gt x0 (i0 : Int)).fOut.fRule))) else (bif ((decide (0 < (i0 : Int))) && (decide (0 ≤ (bif (decide (0 < (i0 : Int))) then (impl_compareRefs_v ((gt x0 (wrap64 ((i0 : Int) - 1))).fRef) ((gt x0 (i0 : Int)).fRef)) else default)))) then (some 1) else none)))) (fun i0 hs4 hi4 => by
  have hbn : x0.length ≤ 9223372036854775807 := (by have := h_x0; first | (have := this.1; omega) | omega)
  simp only [impl_CoinsFault.l0_s]
  exact Evt_t2 (int_lt hi4) (StE.chk (by first | exact idx_ok (by omega) | exact idx_ok (by have hq := len_eq (by assumption); omega) | exact idx_found (show (0 : Int) ≤ (i0 : Int) by simp_all) | exact cut_ok (by omega) | exact or_ok (idx_ok (by omega)) | (refine or1 (fun hz => pre_ok (by simp at hz; omega) (by omega) (by omega))) | exact pre_ok (by omega) (by omega) (by omega) | (simp_all [idxOk, cutOk, leB]; done) | (simp_all [idxOk, cutOk, leB]; omega) | (simp [idxOk, cutOk, leB] at *; omega) | (have hf0 := h_x0.1; simp only [leB, decide_eq_true_eq, List.length_append, List.length_cons, List.length_nil]; omega)) (StE.bind (impl_isRef_ev ((gt x0 (i0 : Int)).fRef)) (StE.bind (Evt.ifh (fun _ => (impl_isHeight_ev ((gt x0 (i0 : Int)).fHeight))) (fun _ => Evt.self _)) (StE.bind (Evt.ifh (fun _ => (impl_within_ev ((gt x0 (i0 : Int)).fOut.fValue) 1 1000000)) (fun _ => Evt.self _)) (StE.ifh (fun hc3 => (StE.ret _)) (fun hc3 => (StE.bind (impl_RuleFault_ev ((gt x0 (i0 : Int)).fOut.fRule) ((((h_x0).2 _ (gt_mem (by first | omega | (have hq := len_eq (by assumption); omega) | (have hf0 := h_x0.1; simp only [leB, decide_eq_true_eq, List.length_append, List.length_cons, List.length_nil]; omega)))).2.1).2)) (StE.ifh (fun hc2 => (StE.ret _)) (fun hc2 => (StE.chk (by first | exact idx_ok (by omega) | exact idx_ok (by have hq := len_eq (by assumption); omega) | exact idx_found (by simp_all) | exact cut_ok (by omega) | exact or_ok (idx_ok (by omega)) | (refine or1 (fun hz => pre_ok (by simp at hz; omega) (by omega) (by omega))) | exact pre_ok (by omega) (by omega) (by omega) | (simp_all [idxOk, cutOk, leB]; done) | (simp_all [idxOk, cutOk, leB]; omega) | (simp [idxOk, cutOk, leB] at *; omega) | (have hf0 := h_x0.1; simp only [leB, decide_eq_true_eq, List.length_append, List.length_cons, List.length_nil]; omega)) (StE.bind (Evt.ifh (fun _ => (impl_compareRefs_ev ((gt x0 (wrap64 ((i0 : Int) - 1))).fRef) ((gt x0 (i0 : Int)).fRef))) (fun _ => Evt.self _)) (StE.ifh (fun hc1 => (StE.ret _)) (fun hc1 => StE.next)))))))))))))) (fun j hj => by
  simp only [impl_CoinsFault.l0_s]
  exact Evt.f (ge_lt hj) (Evt.self _))) (fun _ => rfl) (Evt.self _))))
theorem refs_same (r : Ref) : impl_isRef_v r = spec_l3Ref_v r := by simp only [impl_isRef_v, spec_l3Ref_v, impl_isId_v, impl_within_v, spec_l1In_v]
theorem or_two (p q : Int) : cmp_Or_int_v ([p, q] : List Int) = bif p != 0 then p else bif q != 0 then q else 0 := by
  show onO (([0, 1] : List Nat).findSome? fun i : Nat => bif (gt [p, q] (i : Int)) != 0 then some (gt [p, q] (i : Int)) else none) (fun r => r) 0 = _
  have e0 : gt [p, q] ((0 : Nat) : Int) = p := rfl
  have e1 : gt [p, q] ((1 : Nat) : Int) = q := rfl
  rw [List.findSome?_cons, List.findSome?_cons, List.findSome?_nil, e0, e1]
  cases (p != 0) <;> cases (q != 0) <;> rfl
theorem compare_eq (a b : Int) : cmp_Compare_int64_v a b = bif decide (a < b) then -1 else bif decide (b < a) then 1 else 0 := by
  have e : ∀ x : Int, cmp_isNaN_int64_v x = false := fun x => by simp [cmp_isNaN_int64_v]
  simp only [cmp_Compare_int64_v, e]; rfl
theorem ahead_eq (a b : Ref) : decide (0 ≤ impl_compareRefs_v a b) = !(spec_l4Ahead_v a b) := by
  have e : impl_compareRefs_v a b = bif (cmp_Compare_int64_v a.fTx b.fTx) != 0 then cmp_Compare_int64_v a.fTx b.fTx else bif (cmp_Compare_int64_v a.fAt b.fAt) != 0 then cmp_Compare_int64_v a.fAt b.fAt else 0 := or_two _ _
  rw [e, compare_eq, compare_eq]
  unfold spec_l4Ahead_v
  by_cases h1 : a.fTx < b.fTx
  · have h2 : ¬ a.fTx = b.fTx := by omega
    simp [h1, h2]
  · by_cases h2 : b.fTx < a.fTx
    · have h3 : ¬ a.fTx = b.fTx := by omega
      simp [h1, h2, h3]
    · have h3 : a.fTx = b.fTx := by omega
      by_cases h4 : a.fAt < b.fAt
      · simp [h3, h4]
      · by_cases h5 : b.fAt < a.fAt
        · simp [h3, h4, h5]
        · simp [h3, h4, h5]
theorem coinsFault_same (x0 : List Coin) : impl_CoinsFault_v x0 = spec_l4Fault_v x0 := by
  unfold impl_CoinsFault_v spec_l4Fault_v
  congr 2
  refine fs_congr fun i hi => ?_
  simp only [refs_same, ruleFault_same, spec_l4Out_v]
  have e1 : ∀ n a b : Int, impl_within_v n a b = spec_l1In_v n a b := fun _ _ _ => rfl
  have e2 : ∀ n : Int, impl_isHeight_v n = spec_l2Height_v n := fun _ => rfl
  have e3 : (decide (0 < (i : Int)) && decide (0 ≤ (bif decide (0 < (i : Int)) then impl_compareRefs_v (gt x0 (wrap64 ((i : Int) - 1))).fRef (gt x0 (i : Int)).fRef else default))) =
      (decide (0 < (i : Int)) && !(bif decide (0 < (i : Int)) then spec_l4Ahead_v (gt x0 (wrap64 ((i : Int) - 1))).fRef (gt x0 (i : Int)).fRef else default)) := by
    cases decide (0 < (i : Int))
    · rfl
    · exact ahead_eq _ _
  rw [e3]
  simp only [e1, e2]
  generalize (decide (0 < (i : Int)) && !(bif decide (0 < (i : Int)) then spec_l4Ahead_v (gt x0 (wrap64 ((i : Int) - 1))).fRef (gt x0 (i : Int)).fRef else default)) = z
  generalize spec_l3Ref_v (gt x0 (i : Int)).fRef = a
  generalize spec_l2Height_v (gt x0 (i : Int)).fHeight = b
  generalize spec_l1In_v (gt x0 (i : Int)).fOut.fValue 1 1000000 = c
  cases a <;> cases b <;> cases c <;> rfl
def lexL (a b : Ref) : Prop := a.fTx < b.fTx ∨ a.fTx = b.fTx ∧ a.fAt < b.fAt
theorem risingR {R : Nat → Nat → Prop} (n : Nat) (tr : ∀ a b c, c < n → R a b → R b c → R a c) (h : ∀ i, i + 1 < n → R i (i + 1)) : ∀ d a, a + d + 1 < n → R a (a + d + 1)
  | 0, a, hb => h a hb
  | d + 1, a, hb => tr _ _ _ hb (risingR n tr h d a (by omega)) (h (a + d + 1) hb)
theorem compareRefs_lt (a b : Ref) : impl_compareRefs_v a b < 0 ↔ lexL a b := by
  have e : impl_compareRefs_v a b = bif (cmp_Compare_int64_v a.fTx b.fTx) != 0 then cmp_Compare_int64_v a.fTx b.fTx else bif (cmp_Compare_int64_v a.fAt b.fAt) != 0 then cmp_Compare_int64_v a.fAt b.fAt else 0 := or_two _ _
  rw [e, compare_eq, compare_eq]
  unfold lexL
  by_cases h1 : a.fTx < b.fTx
  · simp [h1]
  · by_cases h2 : b.fTx < a.fTx
    · simp [h1, h2]; omega
    · have h3 : a.fTx = b.fTx := by omega
      by_cases h4 : a.fAt < b.fAt
      · simp [h3, h4]
      · by_cases h5 : b.fAt < a.fAt
        · simp [h3, h4, h5]
        · simp [h3, h4, h5]
theorem compareRefs_zero (a b : Ref) : impl_compareRefs_v a b = 0 ↔ a.fTx = b.fTx ∧ a.fAt = b.fAt := by
  have e : impl_compareRefs_v a b = bif (cmp_Compare_int64_v a.fTx b.fTx) != 0 then cmp_Compare_int64_v a.fTx b.fTx else bif (cmp_Compare_int64_v a.fAt b.fAt) != 0 then cmp_Compare_int64_v a.fAt b.fAt else 0 := or_two _ _
  rw [e, compare_eq, compare_eq]
  by_cases h1 : a.fTx < b.fTx
  · simp [h1]; omega
  · by_cases h2 : b.fTx < a.fTx
    · simp [h1, h2]; omega
    · have h3 : a.fTx = b.fTx := by omega
      by_cases h4 : a.fAt < b.fAt
      · simp [h3, h4]; omega
      · by_cases h5 : b.fAt < a.fAt
        · simp [h3, h4, h5]; omega
        · have h6 : a.fAt = b.fAt := by omega
          simp [h3, h6]
theorem ahead_lex (a b : Ref) : spec_l4Ahead_v a b = true ↔ lexL a b := by
  unfold spec_l4Ahead_v lexL
  by_cases h : a.fTx = b.fTx
  · simp [h]
  · have h2 : (a.fTx != b.fTx) = true := by simp [h]
    rw [h2]; simp; omega
theorem three_ne (a : Bool) (q : Int) (b : Bool) : (bif a then some (3 : Int) else bif q != 0 then some q else bif b then some 1 else none) ≠ some 0 := by
  cases a
  · cases hq : q != 0
    · cases b <;> simp
    · simp at hq; simpa using hq
  · simp
theorem three_none {a : Bool} {q : Int} {b : Bool} (h : (bif a then some (3 : Int) else bif q != 0 then some q else bif b then some 1 else none) = none) : b = false := by
  cases a
  · cases hq : q != 0
    · rw [hq] at h; cases b
      · rfl
      · cases h
    · rw [hq] at h; cases h
  · cases h
theorem coins_step (x0 : List Coin) (hl : x0.length ≤ 1048576) (h : spec_l4Fault_v x0 = 0) : ∀ i, i + 1 < x0.length → lexL (gt x0 (i : Int)).fRef (gt x0 ((i + 1 : Nat) : Int)).fRef := by
  intro i hi
  unfold spec_l4Fault_v at h
  cases hc : decide (40 < (x0.length : Int))
  · rw [hc] at h
    obtain ⟨h1, _⟩ := onO_zero h (fun i => three_ne _ _ _)
    have h2 := three_none (fs_all h1 (i + 1) hi)
    have e : wrap64 (((i + 1 : Nat) : Int) - 1) = (i : Int) := by have := wrap64_in (((i + 1 : Nat) : Int) - 1) (by omega); rw [this]; omega
    have e2 : decide (0 < ((i + 1 : Nat) : Int)) = true := decide_eq_true (by omega)
    rw [e, e2] at h2
    rw [← ahead_lex]
    cases hq : spec_l4Ahead_v (gt x0 (i : Int)).fRef (gt x0 ((i + 1 : Nat) : Int)).fRef
    · rw [hq] at h2; cases h2
    · rfl
  · rw [hc] at h; exact absurd (show (2 : Int) = 0 from h) (by decide)
theorem lex_trans {a b c : Ref} (h : lexL a b) (k : lexL b c) : lexL a c := by unfold lexL at *; omega
theorem coins_lt (x0 : List Coin) (hl : x0.length ≤ 1048576) (h : spec_l4Fault_v x0 = 0) (a b : Nat) (hab : a < b) (hb : b < x0.length) : lexL (gt x0 (a : Int)).fRef (gt x0 (b : Int)).fRef := by
  have := risingR (R := fun a b => lexL (gt x0 (a : Int)).fRef (gt x0 (b : Int)).fRef) x0.length (fun a b c _ h k => lex_trans h k) (coins_step x0 hl h) (b - a - 1) a (by omega)
  have e : a + (b - a - 1) + 1 = b := by omega
  rw [e] at this
  exact this
def Rise (xs : List Coin) : Prop := xs.length ≤ 1048576 ∧ xs.Pairwise fun a b => lexL a.fRef b.fRef
theorem Rise.lt {xs : List Coin} (h : Rise xs) (a b : Nat) (hab : a < b) (hb : b < xs.length) : lexL (gt xs (a : Int)).fRef (gt xs (b : Int)).fRef := by
  rw [gt_eq (by simp; omega), gt_eq (by simpa using hb)]
  exact (List.pairwise_iff_getElem.1 h.2) _ _ _ _ (by simpa using hab)
theorem Rise.of {xs : List Coin} (hl : xs.length ≤ 1048576) (h : ∀ a b : Nat, a < b → b < xs.length → lexL (gt xs (a : Int)).fRef (gt xs (b : Int)).fRef) : Rise xs := by
  refine ⟨hl, List.pairwise_iff_getElem.2 fun i j hi hj hij => ?_⟩
  have := h i j hij hj
  rw [gt_eq (by simpa using hi), gt_eq (by simpa using hj)] at this
  simpa using this
theorem Rise.sub {xs ys : List Coin} (h : Rise xs) (s : ys.Sublist xs) : Rise ys := ⟨Nat.le_trans s.length_le h.1, h.2.sublist s⟩
theorem rise_of {x0 : List Coin} (h0 : Lm smCoin x0) (h : spec_l4Fault_v x0 = 0) : Rise x0 := Rise.of h0.1 (coins_lt x0 h0.1 h)
theorem fault_len {x0 : List Coin} (h : spec_l4Fault_v x0 = 0) : x0.length ≤ 40 := by
  unfold spec_l4Fault_v at h
  by_cases hc : x0.length ≤ 40
  · exact hc
  · have : decide (40 < (x0.length : Int)) = true := by simp; omega
    rw [this] at h
    exact absurd (show (2 : Int) = 0 from h) (by decide)
theorem rise_keys {xs : List Coin} (h : xs.Pairwise fun a b => lexL a.fRef b.fRef) : (xs.map refKey).Nodup := by
  unfold List.Nodup
  rw [List.pairwise_map]
  refine h.imp fun {a b} hab e => ?_
  unfold refKey at e
  have e1 := (Prod.mk.inj e).1; have e2 := (Prod.mk.inj e).2
  unfold lexL at hab; omega
theorem lex_le {a b : Coin} (h : lexL a.fRef b.fRef) : refLe a b = true := by
  rw [refLe_iff]; unfold lexL at h; omega
theorem sort_uniq {xs ys : List Coin} (hp : ys.Perm xs) (hr : ys.Pairwise fun a b => lexL a.fRef b.fRef) : xs.mergeSort refLe = ys := by
  have hms : (xs.mergeSort refLe).Pairwise (fun a b => refLe a b = true) := List.pairwise_mergeSort (fun a b c h1 h2 => by rw [refLe_iff] at *; omega) (fun a b => by
    rw [Bool.or_eq_true, refLe_iff, refLe_iff]; omega) xs
  have hpm : (xs.mergeSort refLe).Perm ys := (List.mergeSort_perm xs refLe).trans hp.symm
  refine sorted_uniq hpm hms (hr.imp lex_le) (fun a ha b hb h1 h2 => ?_)
  refine key_inj (rise_keys hr) a (hpm.mem_iff.1 ha) b (hpm.mem_iff.1 hb) ?_
  rw [refLe_iff] at h1 h2
  have e1 : a.fRef.fTx = b.fRef.fTx := by omega
  have e2 : a.fRef.fAt = b.fRef.fAt := by omega
  unfold refKey
  rw [e1, e2]
def impl_TxFault_1_v (x0 : Int) : Bool := ((decide (x0 < 1)) || (decide (4 < x0)))
theorem impl_TxFault_1_ev (x0 : Int)  : Evt (fun k => impl_TxFault_1.f k x0) (impl_TxFault_1_v x0) :=
  (Evt.self _)
def slices_Index_impl_Ref_v (x0 : List Ref) (x1 : Ref) : Int := (onO ((List.range' 0 (x0.length - 0)).findSome? (fun (i0 : Nat) => (bif ((x1.fTx == ((gt x0 (i0 : Int)).fTx)) && (x1.fAt == ((gt x0 (i0 : Int)).fAt))) then (some (i0 : Int)) else none))) (fun r => r) (-1))
theorem slices_Index_impl_Ref_ev (x0 : List Ref) (x1 : Ref) (h_x0 : (Lm smRef) x0) : Evt (fun k => slices_Index_impl_Ref.f k x0 x1) (slices_Index_impl_Ref_v x0 x1) :=
  (Evt.loop (r' := fun r => r) (Evt.srch (L := (fun k i => slices_Index_impl_Ref.l0 x0 x1 k i)) 0 x0.length (by have := h_x0; first | (have := this.1; omega) | omega) (fun (i0 : Nat) => (bif ((x1.fTx == ((gt x0 (i0 : Int)).fTx)) && (x1.fAt == ((gt x0 (i0 : Int)).fAt))) then (some (i0 : Int)) else none)) (fun i0 hs2 hi2 => by
  have hbn : x0.length ≤ 9223372036854775807 := (by have := h_x0; first | (have := this.1; omega) | omega)
  simp only [slices_Index_impl_Ref.l0_s]
  exact Evt_t2 (int_lt hi2) (StE.chk (by first | exact idx_ok (by omega) | exact idx_ok (by have hq := len_eq (by assumption); omega) | exact idx_found (show (0 : Int) ≤ (i0 : Int) by simp_all) | exact cut_ok (by omega) | exact or_ok (idx_ok (by omega)) | (refine or1 (fun hz => pre_ok (by simp at hz; omega) (by omega) (by omega))) | exact pre_ok (by omega) (by omega) (by omega) | (simp_all [idxOk, cutOk, leB]; done) | (simp_all [idxOk, cutOk, leB]; omega) | (simp [idxOk, cutOk, leB] at *; omega) | (have hf0 := h_x0.1; simp only [leB, decide_eq_true_eq, List.length_append, List.length_cons, List.length_nil]; omega)) (StE.ifh (fun hc1 => (StE.ret _)) (fun hc1 => StE.next)))) (fun j hj => by
  simp only [slices_Index_impl_Ref.l0_s]
  exact Evt.f (ge_lt hj) (Evt.self _))) (fun _ => rfl) (Evt.self _))
def slices_Contains_impl_Ref_v (x0 : List Ref) (x1 : Ref) : Bool := (decide (0 ≤ (slices_Index_impl_Ref_v x0 x1)))
theorem slices_Contains_impl_Ref_ev (x0 : List Ref) (x1 : Ref) (h_x0 : (Lm smRef) x0) : Evt (fun k => slices_Contains_impl_Ref.f k x0 x1) (slices_Contains_impl_Ref_v x0 x1) :=
  (Evt.bind (slices_Index_impl_Ref_ev x0 x1 (h_x0)) (Evt.self _))
theorem slices_Contains_impl_Ref_any (x0 : List Ref) (x1 : Ref) : slices_Contains_impl_Ref_v x0 x1 = (List.range' 0 (x0.length - 0)).any (fun (i0 : Nat) => ((x1.fTx == ((gt x0 (i0 : Int)).fTx)) && (x1.fAt == ((gt x0 (i0 : Int)).fAt)))) := idx_any _ _
def impl_outFault_v (x0 : Out) : Int := (bif !(impl_within_v x0.fValue 1 1000000) then 3 else (impl_RuleFault_v x0.fRule))
theorem impl_outFault_ev (x0 : Out) (h_x0 : smOut x0) : Evt (fun k => impl_outFault.f k x0) (impl_outFault_v x0) :=
  (Evt.bind (impl_within_ev x0.fValue 1 1000000) (Evt.ifh (fun hc0 => (Evt.self _)) (fun hc0 => (Evt.bind (impl_RuleFault_ev x0.fRule (h_x0.2)) (Evt.self _)))))
def impl_TxFault_v (x0 : Tx) : Int := (bif ((!(impl_within_v x0.fKind 0 2)) || ((x0.fKind == 0) != (x0.fMember == 0))) then 1 else (bif ((x0.fMember != 0) && (!(bif (x0.fMember != 0) then (impl_isKey_v x0.fMember) else default))) then 3 else (bif ((impl_TxFault_1_v (x0.fIns.length : Int)) || (bif (!(impl_TxFault_1_v (x0.fIns.length : Int))) then (impl_TxFault_1_v (x0.fOuts.length : Int)) else default)) then 2 else (onO ((List.range' 0 (x0.fIns.length - 0)).findSome? (fun (i0 : Nat) => (bif !(impl_isRef_v (gt x0.fIns (i0 : Int))) then (some 3) else (bif (slices_Contains_impl_Ref_v (x0.fIns.take ((i0 : Int)).toNat) (gt x0.fIns (i0 : Int))) then (some 7) else none)))) (fun r => r) (onO ((List.range' 0 (x0.fOuts.length - 0)).findSome? (fun (i3 : Nat) => (bif ((impl_outFault_v (gt x0.fOuts (i3 : Int))) != 0) then (some (impl_outFault_v (gt x0.fOuts (i3 : Int)))) else none))) (fun r => r) (bif ((x0.fKind == 1) && (decide (((gt x0.fOuts (0 : Int)).fValue) < 100))) then 8 else 0))))))
theorem impl_TxFault_ev (x0 : Tx) (h_x0 : smTx x0) : Evt (fun k => impl_TxFault.f k x0) (impl_TxFault_v x0) :=
  (Evt.bind (impl_within_ev x0.fKind 0 2) (Evt.ifh (fun hc8 => (Evt.self _)) (fun hc8 => (Evt.bind (Evt.ifh (fun _ => (impl_isKey_ev x0.fMember)) (fun _ => Evt.self _)) (Evt.ifh (fun hc7 => (Evt.self _)) (fun hc7 => (Evt.bind (impl_TxFault_1_ev (x0.fIns.length : Int)) (Evt.bind (Evt.ifh (fun _ => (impl_TxFault_1_ev (x0.fOuts.length : Int))) (fun _ => Evt.self _)) (Evt.ifh (fun hc6 => (Evt.self _)) (fun hc6 => (Evt.loop (r' := fun r => r) (Evt.srch (L := (fun k i => impl_TxFault.l0 x0 k i)) 0 x0.fIns.length (by have := h_x0.2.2.1; first | (have := this.1; omega) | omega) (fun (i0 : Nat) => (bif !(impl_isRef_v (gt x0.fIns (i0 : Int))) then (some 3) else (bif (slices_Contains_impl_Ref_v (x0.fIns.take ((i0 : Int)).toNat) (gt x0.fIns (i0 : Int))) then (some 7) else none))) (fun i0 hs3 hi3 => by
  have hbn : x0.fIns.length ≤ 9223372036854775807 := (by have := h_x0.2.2.1; first | (have := this.1; omega) | omega)
  simp only [impl_TxFault.l0_s]
  exact Evt_t2 (int_lt hi3) (StE.chk (by first | exact idx_ok (by omega) | exact idx_ok (by have hq := len_eq (by assumption); omega) | exact idx_found (show (0 : Int) ≤ (i0 : Int) by simp_all) | exact cut_ok (by omega) | exact or_ok (idx_ok (by omega)) | (refine or1 (fun hz => pre_ok (by simp at hz; omega) (by omega) (by omega))) | exact pre_ok (by omega) (by omega) (by omega) | (simp_all [idxOk, cutOk, leB]; done) | (simp_all [idxOk, cutOk, leB]; omega) | (simp [idxOk, cutOk, leB] at *; omega) | (simp_all [idxOk, impl_TxFault_1_v]; omega) | (have hf0 := h_x0.2.2.1.1; have hf1 := h_x0.2.2.2.1; simp only [leB, decide_eq_true_eq, List.length_append, List.length_cons, List.length_nil]; omega)) (StE.bind (impl_isRef_ev (gt x0.fIns (i0 : Int))) (StE.ifh (fun hc2 => (StE.ret _)) (fun hc2 => (StE.chk (by first | exact idx_ok (by omega) | exact idx_ok (by have hq := len_eq (by assumption); omega) | exact idx_found (by simp_all) | exact cut_ok (by omega) | exact or_ok (idx_ok (by omega)) | (refine or1 (fun hz => pre_ok (by simp at hz; omega) (by omega) (by omega))) | exact pre_ok (by omega) (by omega) (by omega) | (simp_all [idxOk, cutOk, leB]; done) | (simp_all [idxOk, cutOk, leB]; omega) | (simp [idxOk, cutOk, leB] at *; omega) | (simp_all [idxOk, impl_TxFault_1_v]; omega) | (have hf0 := h_x0.2.2.1.1; have hf1 := h_x0.2.2.2.1; simp only [leB, decide_eq_true_eq, List.length_append, List.length_cons, List.length_nil]; omega)) (StE.bind (slices_Contains_impl_Ref_ev (x0.fIns.take ((i0 : Int)).toNat) (gt x0.fIns (i0 : Int)) ((Lm_take h_x0.2.2.1))) (StE.ifh (fun hc1 => (StE.ret _)) (fun hc1 => StE.next))))))))) (fun j hj => by
  simp only [impl_TxFault.l0_s]
  exact Evt.f (ge_lt hj) (Evt.self _))) (fun _ => rfl) (Evt.loop (r' := fun r => r) (Evt.srch (L := (fun k i => impl_TxFault.l1 x0 k i)) 0 x0.fOuts.length (by have := h_x0.2.2.2; first | (have := this.1; omega) | omega) (fun (i3 : Nat) => (bif ((impl_outFault_v (gt x0.fOuts (i3 : Int))) != 0) then (some (impl_outFault_v (gt x0.fOuts (i3 : Int)))) else none)) (fun i3 hs5 hi5 => by
  have hbn : x0.fOuts.length ≤ 9223372036854775807 := (by have := h_x0.2.2.2; first | (have := this.1; omega) | omega)
  simp only [impl_TxFault.l1_s]
  exact Evt_t2 (int_lt hi5) (StE.chk (by first | exact idx_ok (by omega) | exact idx_ok (by have hq := len_eq (by assumption); omega) | exact idx_found (show (0 : Int) ≤ (i3 : Int) by simp_all) | exact cut_ok (by omega) | exact or_ok (idx_ok (by omega)) | (refine or1 (fun hz => pre_ok (by simp at hz; omega) (by omega) (by omega))) | exact pre_ok (by omega) (by omega) (by omega) | (simp_all [idxOk, cutOk, leB]; done) | (simp_all [idxOk, cutOk, leB]; omega) | (simp [idxOk, cutOk, leB] at *; omega) | (simp_all [idxOk, impl_TxFault_1_v]; omega) | (have hf0 := h_x0.2.2.1.1; have hf1 := h_x0.2.2.2.1; simp only [leB, decide_eq_true_eq, List.length_append, List.length_cons, List.length_nil]; omega)) (StE.bind (impl_outFault_ev (gt x0.fOuts (i3 : Int)) ((h_x0.2.2.2).2 _ (gt_mem (by first | omega | (have hq := len_eq (by assumption); omega) | (simp_all [idxOk, impl_TxFault_1_v]; omega) | (have hf0 := h_x0.2.2.1.1; have hf1 := h_x0.2.2.2.1; simp only [leB, decide_eq_true_eq, List.length_append, List.length_cons, List.length_nil]; omega))))) (StE.ifh (fun hc4 => (StE.ret _)) (fun hc4 => StE.next))))) (fun j hj => by
  simp only [impl_TxFault.l1_s]
  exact Evt.f (ge_lt hj) (Evt.self _))) (fun _ => rfl) (Evt.chk (by first | exact idx_ok (by omega) | exact idx_ok (by have hq := len_eq (by assumption); omega) | exact idx_found (by simp_all) | exact cut_ok (by omega) | exact or_ok (idx_ok (by omega)) | (refine or1 (fun hz => pre_ok (by simp at hz; omega) (by omega) (by omega))) | exact pre_ok (by omega) (by omega) (by omega) | (simp_all [idxOk, cutOk, leB]; done) | (simp_all [idxOk, cutOk, leB]; omega) | (simp [idxOk, cutOk, leB] at *; omega) | (simp_all [idxOk, impl_TxFault_1_v]; omega) | (have hf0 := h_x0.2.2.1.1; have hf1 := h_x0.2.2.2.1; simp only [leB, decide_eq_true_eq, List.length_append, List.length_cons, List.length_nil]; omega)) (Evt.ifh (fun hc5 => (Evt.self _)) (fun hc5 => (Evt.self _))))))))))))))))
def impl_areOf_1_v (x0 : Coin) (x1 : List Ref) : Bool := (!(slices_Contains_impl_Ref_v x1 x0.fRef))
theorem impl_areOf_1_ev (x0 : Coin) (x1 : List Ref) (h_x0 : smCoin x0) (h_x1 : (Lm smRef) x1) : Evt (fun k => impl_areOf_1.f k x0 x1) (impl_areOf_1_v x0 x1) :=
  (Evt.bind (slices_Contains_impl_Ref_ev x1 x0.fRef (h_x1)) (Evt.self _))
def slices_IndexFunc_impl_Coin_v (x0 : List Coin) (x1_0 : List Ref) : Int := (onO ((List.range' 0 (x0.length - 0)).findSome? (fun (i0 : Nat) => (bif (impl_areOf_1_v (gt x0 (i0 : Int)) x1_0) then (some (i0 : Int)) else none))) (fun r => r) (-1))
theorem slices_IndexFunc_impl_Coin_ev (x0 : List Coin) (x1_0 : List Ref) (h_x0 : (Lm smCoin) x0) (h_x1_0 : (Lm smRef) x1_0) : Evt (fun k => slices_IndexFunc_impl_Coin.f k x0 x1_0) (slices_IndexFunc_impl_Coin_v x0 x1_0) :=
  (Evt.loop (r' := fun r => r) (Evt.srch (L := (fun k i => slices_IndexFunc_impl_Coin.l0 x0 x1_0 k i)) 0 x0.length (by have := h_x0; first | (have := this.1; omega) | omega) (fun (i0 : Nat) => (bif (impl_areOf_1_v (gt x0 (i0 : Int)) x1_0) then (some (i0 : Int)) else none)) (fun i0 hs2 hi2 => by
  have hbn : x0.length ≤ 9223372036854775807 := (by have := h_x0; first | (have := this.1; omega) | omega)
  simp only [slices_IndexFunc_impl_Coin.l0_s]
  exact Evt_t2 (int_lt hi2) (StE.chk (by first | exact idx_ok (by omega) | exact idx_ok (by have hq := len_eq (by assumption); omega) | exact idx_found (show (0 : Int) ≤ (i0 : Int) by simp_all) | exact cut_ok (by omega) | exact or_ok (idx_ok (by omega)) | (refine or1 (fun hz => pre_ok (by simp at hz; omega) (by omega) (by omega))) | exact pre_ok (by omega) (by omega) (by omega) | (simp_all [idxOk, cutOk, leB]; done) | (simp_all [idxOk, cutOk, leB]; omega) | (simp [idxOk, cutOk, leB] at *; omega) | (have hf0 := h_x0.1; have hf1 := h_x1_0.1; simp only [leB, decide_eq_true_eq, List.length_append, List.length_cons, List.length_nil]; omega)) (StE.bind (impl_areOf_1_ev (gt x0 (i0 : Int)) x1_0 ((h_x0).2 _ (gt_mem (by first | omega | (have hq := len_eq (by assumption); omega) | (have hf0 := h_x0.1; have hf1 := h_x1_0.1; simp only [leB, decide_eq_true_eq, List.length_append, List.length_cons, List.length_nil]; omega)))) (h_x1_0)) (StE.ifh (fun hc1 => (StE.ret _)) (fun hc1 => StE.next))))) (fun j hj => by
  simp only [slices_IndexFunc_impl_Coin.l0_s]
  exact Evt.f (ge_lt hj) (Evt.self _))) (fun _ => rfl) (Evt.self _))
def slices_ContainsFunc_impl_Coin_v (x0 : List Coin) (x1_0 : List Ref) : Bool := (decide (0 ≤ (slices_IndexFunc_impl_Coin_v x0 x1_0)))
theorem slices_ContainsFunc_impl_Coin_ev (x0 : List Coin) (x1_0 : List Ref) (h_x0 : (Lm smCoin) x0) (h_x1_0 : (Lm smRef) x1_0) : Evt (fun k => slices_ContainsFunc_impl_Coin.f k x0 x1_0) (slices_ContainsFunc_impl_Coin_v x0 x1_0) :=
  (Evt.bind (slices_IndexFunc_impl_Coin_ev x0 x1_0 (h_x0) (h_x1_0)) (Evt.self _))
theorem slices_ContainsFunc_impl_Coin_any (x0 : List Coin) (x1_0 : List Ref) : slices_ContainsFunc_impl_Coin_v x0 x1_0 = (List.range' 0 (x0.length - 0)).any (fun (i0 : Nat) => (impl_areOf_1_v (gt x0 (i0 : Int)) x1_0)) := idx_any _ _
def impl_areOf_v (x0 : List Coin) (x1 : List Ref) : Bool := (((x0.length : Int) == (x1.length : Int)) && (!(bif ((x0.length : Int) == (x1.length : Int)) then (slices_ContainsFunc_impl_Coin_v x0 x1) else default)))
theorem impl_areOf_ev (x0 : List Coin) (x1 : List Ref) (h_x0 : (Lm smCoin) x0) (h_x1 : (Lm smRef) x1) : Evt (fun k => impl_areOf.f k x0 x1) (impl_areOf_v x0 x1) :=
  (Evt.bind (Evt.ifh (fun _ => (slices_ContainsFunc_impl_Coin_ev x0 x1 (h_x0) (h_x1))) (fun _ => Evt.self _)) (Evt.self _))
def slices_DeleteFunc_Coin_v (x0 : List Coin) (x1_0 : Int) : List Coin := x0.filter (fun c => c.fRef.fTx == x1_0)
theorem delFunc1_ev (x0 : List Coin) (x1_0 : Int) (h : Lm smCoin x0) : Evt (fun k => slices_DeleteFunc_Coin.f k x0 x1_0) (slices_DeleteFunc_Coin_v x0 x1_0) := Evt.chk (leB_of h.1) (Evt.ret (List.filter_congr fun c _ => by show (!(c.fRef.fTx != x1_0)) = _; simp [bne]))
def slices_Equal_int64_v (x0 : List Int) (x1 : List Int) : Bool := (bif ((x0.length : Int) != (x1.length : Int)) then false else (onO ((List.range' 0 (x0.length - 0)).findSome? (fun (i0 : Nat) => (bif ((gt x0 (i0 : Int)) != (gt x1 (i0 : Int))) then (some false) else none))) (fun r => r) true))
theorem slices_Equal_int64_ev (x0 : List Int) (x1 : List Int) (h_x0 : (Lm tr) x0) (h_x1 : (Lm tr) x1) : Evt (fun k => slices_Equal_int64.f k x0 x1) (slices_Equal_int64_v x0 x1) :=
  (Evt.ifh (fun hc2 => (Evt.self _)) (fun hc2 => (Evt.loop (r' := fun r => r) (Evt.srch (L := (fun k i => slices_Equal_int64.l0 x0 x1 k i)) 0 x0.length (by have := h_x0; first | (have := this.1; omega) | omega) (fun (i0 : Nat) => (bif ((gt x0 (i0 : Int)) != (gt x1 (i0 : Int))) then (some false) else none)) (fun i0 hs2 hi2 => by
  have hbn : x0.length ≤ 9223372036854775807 := (by have := h_x0; first | (have := this.1; omega) | omega)
  simp only [slices_Equal_int64.l0_s]
  exact Evt_t2 (int_lt hi2) (StE.chk (by first | exact idx_ok (by omega) | exact idx_ok (by have hq := len_eq (by assumption); omega) | exact idx_found (show (0 : Int) ≤ (i0 : Int) by simp_all) | exact cut_ok (by omega) | exact or_ok (idx_ok (by omega)) | (refine or1 (fun hz => pre_ok (by simp at hz; omega) (by omega) (by omega))) | exact pre_ok (by omega) (by omega) (by omega) | (simp_all [idxOk, cutOk, leB]; done) | (simp_all [idxOk, cutOk, leB]; omega) | (simp [idxOk, cutOk, leB] at *; omega) | (have hf0 := h_x0.1; have hf1 := h_x1.1; simp only [leB, decide_eq_true_eq, List.length_append, List.length_cons, List.length_nil]; omega)) (StE.chk (by first | exact idx_ok (by omega) | exact idx_ok (by have hq := len_eq (by assumption); omega) | exact idx_found (show (0 : Int) ≤ (i0 : Int) by simp_all) | exact cut_ok (by omega) | exact or_ok (idx_ok (by omega)) | (refine or1 (fun hz => pre_ok (by simp at hz; omega) (by omega) (by omega))) | exact pre_ok (by omega) (by omega) (by omega) | (simp_all [idxOk, cutOk, leB]; done) | (simp_all [idxOk, cutOk, leB]; omega) | (simp [idxOk, cutOk, leB] at *; omega) | (have hf0 := h_x0.1; have hf1 := h_x1.1; simp only [leB, decide_eq_true_eq, List.length_append, List.length_cons, List.length_nil]; omega)) (StE.ifh (fun hc1 => (StE.ret _)) (fun hc1 => StE.next))))) (fun j hj => by
  simp only [slices_Equal_int64.l0_s]
  exact Evt.f (ge_lt hj) (Evt.self _))) (fun _ => rfl) (Evt.self _))))
def impl_SameRules_v (x0 : Rule) (x1 : Rule) : Bool := (((slices_Equal_int64_v x0.fKeys x1.fKeys) && (x0.fNeed == x1.fNeed)) && (x0.fAfter == x1.fAfter))
theorem impl_SameRules_ev (x0 : Rule) (x1 : Rule) (h_x0 : smRule x0) (h_x1 : smRule x1) : Evt (fun k => impl_SameRules.f k x0 x1) (impl_SameRules_v x0 x1) :=
  (Evt.bind (slices_Equal_int64_ev x0.fKeys x1.fKeys (h_x0.1) (h_x1.1)) (Evt.self _))
def impl_sameOuts_v (x0 : Out) (x1 : Out) : Bool := ((x0.fValue == x1.fValue) && (bif (x0.fValue == x1.fValue) then (impl_SameRules_v x0.fRule x1.fRule) else default))
theorem impl_sameOuts_ev (x0 : Out) (x1 : Out) (h_x0 : smOut x0) (h_x1 : smOut x1) : Evt (fun k => impl_sameOuts.f k x0 x1) (impl_sameOuts_v x0 x1) :=
  (Evt.bind (Evt.ifh (fun _ => (impl_SameRules_ev x0.fRule x1.fRule (h_x0.2) (h_x1.2))) (fun _ => Evt.self _)) (Evt.self _))
def madeFrom (x2 : List Out) : Nat → List Coin → Bool
  | _, [] => true
  | i, c :: r => bif (c.fRef.fAt != (i : Int)) || (!(impl_sameOuts_v c.fOut (gt x2 (i : Int)))) then false else madeFrom x2 (i + 1) r
def impl_areMade_v (x0 : List Coin) (x1 : Int) (x2 : List Out) : Bool := bif ((ofId x0 x1).length : Int) != (x2.length : Int) then false else madeFrom x2 0 (ofId x0 x1)
theorem areMade_loop (x2 : List Out) (own : List Coin) (h2 : Lm smOut x2) (h0 : Lm smCoin own) (hl : own.length = x2.length) : ∀ (d i : Nat), i + d = own.length → Evt (fun k => impl_areMade.l0 x2 own k (i : Int)) (bif madeFrom x2 i (own.drop i) then .inr () else .inl false)
  | 0, i, hd => by
    refine Evt.s ?_
    simp only [impl_areMade.l0_s]
    rw [List.drop_of_length_le (by omega)]
    exact Evt.f (ge_lt (by omega)) (Evt.self _)
  | d + 1, i, hd => by
    have hn := h0.1
    have hi : i < own.length := by omega
    have ed : own.drop i = gt own (i : Int) :: own.drop (i + 1) := by rw [gt_eq (by simpa using hi)]; simp only [Int.toNat_natCast]; exact List.drop_eq_getElem_cons hi
    have hsm := h0.2 _ (gt_mem hi)
    have ih := areMade_loop x2 own h2 h0 hl d (i + 1) (by omega)
    refine Evt.s ?_
    simp only [impl_areMade.l0_s]
    rw [ed, w64 hi (by omega)]
    refine Evt.t (int_lt hi) (Evt.chk (idx_ok hi) (Evt.chk (or_ok (idx_ok (by omega))) (Evt.bind (a := bif !((gt own (i : Int)).fRef.fAt != (i : Int)) then impl_sameOuts_v (gt own (i : Int)).fOut (gt x2 (i : Int)) else default) (Evt.ifh (fun _ => impl_sameOuts_ev _ _ hsm.2.1 (h2.2 _ (gt_mem (by omega)))) (fun _ => Evt.self _)) ?_)))
    rw [bor_n]
    unfold madeFrom
    cases ((gt own (i : Int)).fRef.fAt != (i : Int)) || (!(impl_sameOuts_v (gt own (i : Int)).fOut (gt x2 (i : Int))))
    · exact Evt.f rfl ih
    · exact Evt.t rfl (Evt.self _)
theorem ofId_sm {x0 : List Coin} {x1 : Int} (h : Lm smCoin x0) : Lm smCoin (ofId x0 x1) := Lm_sub h List.filter_sublist
theorem impl_areMade_ev (x0 : List Coin) (x1 : Int) (x2 : List Out) (h0 : Lm smCoin x0) (h2 : Lm smOut x2) : Evt (fun k => impl_areMade.f k x0 x1 x2) (impl_areMade_v x0 x1 x2) := by
  have hn := h0.1
  have e1 := delFunc1_ev x0 x1 h0
  refine Evt.bind (a := x0) (Evt.chk (leB_of (by simp; omega)) (Evt.self _)) (Evt.bind e1 ?_)
  show Evt (fun k => bif ((ofId x0 x1).length : Int) != (x2.length : Int) then _ else _) _
  unfold impl_areMade_v
  cases hc : ((ofId x0 x1).length : Int) != (x2.length : Int)
  · have h := areMade_loop x2 (ofId x0 x1) h2 (ofId_sm h0) (len_eq hc) (ofId x0 x1).length 0 (by omega)
    rw [List.drop_zero] at h
    refine Evt.f rfl ?_
    cases hm : madeFrom x2 0 (ofId x0 x1)
    · rw [hm] at h; exact Evt.bind h (Evt.self _)
    · rw [hm] at h; exact Evt.bind h (Evt.self _)
  · exact Evt.t rfl (Evt.self _)
def impl_findCoin_1_v (x0 : Coin) (x1 : Ref) : Int := (impl_compareRefs_v x0.fRef x1)
theorem impl_findCoin_1_ev (x0 : Coin) (x1 : Ref) (h_x0 : smCoin x0) : Evt (fun k => impl_findCoin_1.f k x0 x1) (impl_findCoin_1_v x0 x1) :=
  (Evt.bind (impl_compareRefs_ev x0.fRef x1) (Evt.self _))
def bsI (q : Nat → Bool) : Nat → Nat → Nat → Nat
  | 0, i, _ => i
  | m + 1, i, j => bif decide (i < j) then (bif q ((i + j) / 2) then bsI q m ((i + j) / 2 + 1) j else bsI q m i ((i + j) / 2)) else i
theorem mid_eq {i j : Nat} (h1 : i < j) (h2 : j ≤ 1048576) : wrap64 ((IntKind.u64.wrap (wrap64 ((i : Int) + (j : Int)))) / 2 ^ ((1 : Int)).toNat) = (((i + j) / 2 : Nat) : Int) := by
  have e1 : wrap64 ((i : Int) + (j : Int)) = (i : Int) + j := wrap64_in _ (by omega)
  have e2 : IntKind.u64.wrap ((i : Int) + j) = (i : Int) + j := u64_in _ (by omega)
  have e3 : (2 : Int) ^ ((1 : Int)).toNat = 2 := by decide
  rw [e1, e2, e3]
  have e4 : ((i : Int) + j) / 2 = (((i + j) / 2 : Nat) : Int) := by omega
  rw [e4]
  exact wrap64_in _ (by omega)
theorem Evt.bs {L : Nat → Int → Int → Option Int} (n : Nat) (q : Nat → Bool)
    (step : ∀ i j : Nat, i < j → j ≤ n → ∀ r, (q ((i + j) / 2) = true → Evt (fun k => L k (((i + j) / 2 + 1 : Nat) : Int) (j : Int)) r) → (q ((i + j) / 2) = false → Evt (fun k => L k (i : Int) (((i + j) / 2 : Nat) : Int)) r) → Evt (fun k => L (k + 1) (i : Int) (j : Int)) r)
    (done : ∀ i j : Nat, j ≤ i → Evt (fun k => L (k + 1) (i : Int) (j : Int)) (i : Int)) : Evt (fun k => L k 0 (n : Int)) ((bsI q n 0 n : Nat) : Int) := by
  have key : ∀ m i j : Nat, j ≤ i + m → j ≤ n → Evt (fun k => L k (i : Int) (j : Int)) ((bsI q m i j : Nat) : Int) := by
    intro m
    induction m with
    | zero => intro i j h _; exact Evt.s (done i j (by omega))
    | succ m ih =>
      intro i j h hj
      refine Evt.s ?_
      unfold bsI
      by_cases hlt : i < j
      · rw [decide_eq_true hlt]
        refine step i j hlt hj _ (fun hq => ?_) (fun hq => ?_)
        · rw [hq]; exact ih _ _ (by omega) hj
        · rw [hq]; exact ih _ _ (by omega) (by omega)
      · rw [decide_eq_false hlt]; exact done i j (by omega)
  exact key n 0 n (by omega) (Nat.le_refl _)
theorem bsI_spec (q : Nat → Bool) (n : Nat) (mono : ∀ a b, a ≤ b → b < n → q b = true → q a = true) :
    bsI q n 0 n ≤ n ∧ (∀ i, i < bsI q n 0 n → q i = true) ∧ (∀ i, bsI q n 0 n ≤ i → i < n → q i = false) := by
  have key : ∀ m i j : Nat, j ≤ i + m → i ≤ j → j ≤ n → (∀ a, a < i → q a = true) → (∀ a, j ≤ a → a < n → q a = false) →
      bsI q m i j ≤ n ∧ (∀ a, a < bsI q m i j → q a = true) ∧ (∀ a, bsI q m i j ≤ a → a < n → q a = false) := by
    intro m
    induction m with
    | zero =>
      intro i j h hij hj h1 h2
      have : i = j := by omega
      subst this
      exact ⟨hj, h1, h2⟩
    | succ m ih =>
      intro i j h hij hj h1 h2
      unfold bsI
      by_cases hlt : i < j
      · rw [decide_eq_true hlt]
        cases hq : q ((i + j) / 2)
        · exact ih _ _ (by omega) (by omega) (by omega) h1 fun a ha hn => by
            cases hqa : q a
            · rfl
            · rw [mono _ a ha hn hqa] at hq; cases hq
        · exact ih _ _ (by omega) (by omega) hj (fun a ha => mono a _ (by omega) (by omega) hq) h2
      · rw [decide_eq_false hlt]
        have : i = j := by omega
        subst this
        exact ⟨hj, h1, h2⟩
  exact key n 0 n (by omega) (by omega) (Nat.le_refl _) (fun a ha => by omega) (fun a ha hn => by omega)
theorem fs_none {β : Type} {p : Nat → Option β} : ∀ {l : List Nat}, (∀ i ∈ l, p i = none) → l.findSome? p = none
  | [], _ => rfl
  | i :: l, h => by rw [List.findSome?_cons, h i (List.mem_cons_self ..)]; exact fs_none fun j hj => h j (List.mem_cons_of_mem _ hj)
theorem fs_first {β : Type} {p : Nat → Option β} {x : β} : ∀ (d i B : Nat), i ≤ B → B < i + d → (∀ j, i ≤ j → j < B → p j = none) → p B = some x → (List.range' i d).findSome? p = some x
  | 0, i, B, h1, h2, _, _ => by omega
  | d + 1, i, B, h1, h2, h3, h4 => by
    rw [List.range'_succ, List.findSome?_cons]
    by_cases e : i = B
    · subst e; rw [h4]
    · rw [h3 i (Nat.le_refl _) (by omega)]
      exact fs_first d (i + 1) B (by omega) (by omega) (fun j hj => h3 j (by omega)) h4
theorem bs_find (n : Nat) (c : Nat → Int) (mono : ∀ a b, a ≤ b → b < n → c b < 0 → c a < 0) (str : ∀ a b, a < b → b < n → c b = 0 → c a < 0) (d : Int) :
    (List.range' 0 (n - 0)).findSome? (fun i => bif c i == 0 then some (i : Int) else none) =
      bif decide (((bsI (fun i => decide (c i < 0)) n 0 n : Nat) : Int) < (n : Int)) && ((bif decide (((bsI (fun i => decide (c i < 0)) n 0 n : Nat) : Int) < (n : Int)) then c (bsI (fun i => decide (c i < 0)) n 0 n) else d) == 0) then some ((bsI (fun i => decide (c i < 0)) n 0 n : Nat) : Int) else none := by
  obtain ⟨h1, h2, h3⟩ := bsI_spec (fun i => decide (c i < 0)) n (fun a b h hb hq => by simp at hq ⊢; exact mono a b h hb hq)
  generalize bsI (fun i => decide (c i < 0)) n 0 n = B at *
  by_cases hB : B < n
  · rw [decide_eq_true (show (B : Int) < (n : Int) by omega)]
    simp only [Bool.true_and, cond_true]
    by_cases h0 : c B = 0
    · rw [h0]
      refine fs_first (n - 0) 0 B (Nat.zero_le _) (by omega) (fun j _ hj => ?_) (by rw [h0]; rfl)
      have := h2 j hj
      simp at this
      have : (c j == 0) = false := by simp; omega
      rw [this]; rfl
    · have e0 : (c B == 0) = false := by simp [h0]
      rw [e0]
      refine fs_none fun i hi => ?_
      obtain ⟨j, hj, rfl⟩ := List.mem_range'.1 hi
      have e : (c (0 + 1 * j) == 0) = false := by
        simp only [beq_eq_false_iff_ne, ne_eq]
        intro hc
        rcases Nat.lt_trichotomy (0 + 1 * j) B with h | h | h
        · have := h2 _ h; simp at this; simp at hc; omega
        · rw [h] at hc; exact h0 hc
        · have h4 := str B _ h (by omega) hc
          have h5 := h3 B (Nat.le_refl _) hB
          simp at h5; omega
      rw [e]; rfl
  · rw [decide_eq_false (show ¬ (B : Int) < (n : Int) by omega)]
    refine fs_none fun i hi => ?_
    obtain ⟨j, hj, rfl⟩ := List.mem_range'.1 hi
    have h4 := h2 (0 + 1 * j) (by omega)
    simp only [decide_eq_true_eq] at h4
    have e : (c (0 + 1 * j) == 0) = false := by simp only [beq_eq_false_iff_ne, ne_eq]; omega
    rw [e]; rfl
def slices_BinarySearchFunc_impl_Coin_v (x0 : List Coin) (x1 : Ref) : Int × Bool := (((bsI (fun i => decide (impl_findCoin_1_v (gt x0 (i : Int)) x1 < 0)) x0.length 0 x0.length : Nat) : Int), (decide (((bsI (fun i => decide (impl_findCoin_1_v (gt x0 (i : Int)) x1 < 0)) x0.length 0 x0.length : Nat) : Int) < (x0.length : Int)) && ((bif decide (((bsI (fun i => decide (impl_findCoin_1_v (gt x0 (i : Int)) x1 < 0)) x0.length 0 x0.length : Nat) : Int) < (x0.length : Int)) then impl_findCoin_1_v (gt x0 ((bsI (fun i => decide (impl_findCoin_1_v (gt x0 (i : Int)) x1 < 0)) x0.length 0 x0.length : Nat) : Int)) x1 else default) == 0)))
theorem slices_BinarySearchFunc_impl_Coin_ev (x0 : List Coin) (x1 : Ref) (h_x0 : ((Lm smCoin)) x0) : Evt (fun k => slices_BinarySearchFunc_impl_Coin.f k x0 x1) (slices_BinarySearchFunc_impl_Coin_v x0 x1) := by
  have hn := h_x0.1
  refine Evt.bind (Evt.bs (L := fun k i j => slices_BinarySearchFunc_impl_Coin.l0 x0 x1 k i j) x0.length (fun i => decide (impl_findCoin_1_v (gt x0 (i : Int)) x1 < 0)) (fun i j h1 h2 r ht hf => ?_) (fun i j h => ?_)) ?_
  · simp only [slices_BinarySearchFunc_impl_Coin.l0_s, mid_eq h1 (Nat.le_trans h2 hn)]
    refine Evt.t (by simp; omega) (Evt.chk rfl (Evt.chk (idx_ok (by omega)) (Evt.bind (impl_findCoin_1_ev (gt x0 _) x1 (h_x0.2 _ (gt_mem (by omega)))) (Evt.cases (fun hq => ?_) (fun hq => ?_)))))
    · rw [w64 (n := x0.length) (by omega) (by omega)]; exact ht hq
    · exact hf hq
  · simp only [slices_BinarySearchFunc_impl_Coin.l0_s]
    exact Evt.f (by simp; omega) (Evt.self _)
  · refine Evt.chk (or1 fun hz => idx_ok (by simp at hz; omega)) (Evt.bind (Evt.ifh (fun hz => impl_findCoin_1_ev (gt x0 _) x1 (h_x0.2 _ (gt_mem (by simp at hz; omega)))) (fun _ => Evt.self _)) (Evt.self _))
def impl_findCoin_v (x0 : List Coin) (x1 : Ref) : Int × Bool := ((slices_BinarySearchFunc_impl_Coin_v x0 x1).1, (slices_BinarySearchFunc_impl_Coin_v x0 x1).2)
theorem impl_findCoin_ev (x0 : List Coin) (x1 : Ref) (h_x0 : (Lm smCoin) x0) : Evt (fun k => impl_findCoin.f k x0 x1) (impl_findCoin_v x0 x1) :=
  (Evt.bind (slices_BinarySearchFunc_impl_Coin_ev x0 x1 (h_x0)) (Evt.self _))
theorem findCoin_in (x0 : List Coin) (x1 : Ref) (h : (!(impl_findCoin_v x0 x1).2) = false) : idxOk (impl_findCoin_v x0 x1).1 x0.length = true := by
  have h2 : (impl_findCoin_v x0 x1).2 = true := notF h
  have h3 : (decide ((impl_findCoin_v x0 x1).1 < (x0.length : Int))) = true := by
    have : (decide ((impl_findCoin_v x0 x1).1 < (x0.length : Int)) && _) = true := h2
    exact (Bool.and_eq_true _ _ ▸ this).1
  unfold idxOk
  rw [Bool.and_eq_true]
  exact ⟨by show decide (0 ≤ ((_ : Nat) : Int)) = true; simp, h3⟩
def impl_undoTx_1_v (x0 : Ref) (x1 : List Coin) : Bool := ((impl_findCoin_v x1 x0).2)
theorem impl_undoTx_1_ev (x0 : Ref) (x1 : List Coin) (h_x1 : (Lm smCoin) x1) : Evt (fun k => impl_undoTx_1.f k x0 x1) (impl_undoTx_1_v x0 x1) :=
  (Evt.bind (impl_findCoin_ev x1 x0 (h_x1)) (Evt.self _))
def slices_IndexFunc_impl_Ref_v (x0 : List Ref) (x1_0 : List Coin) : Int := (onO ((List.range' 0 (x0.length - 0)).findSome? (fun (i0 : Nat) => (bif (impl_undoTx_1_v (gt x0 (i0 : Int)) x1_0) then (some (i0 : Int)) else none))) (fun r => r) (-1))
theorem slices_IndexFunc_impl_Ref_ev (x0 : List Ref) (x1_0 : List Coin) (h_x0 : (Lm smRef) x0) (h_x1_0 : (Lm smCoin) x1_0) : Evt (fun k => slices_IndexFunc_impl_Ref.f k x0 x1_0) (slices_IndexFunc_impl_Ref_v x0 x1_0) :=
  (Evt.loop (r' := fun r => r) (Evt.srch (L := (fun k i => slices_IndexFunc_impl_Ref.l0 x0 x1_0 k i)) 0 x0.length (by have := h_x0; first | (have := this.1; omega) | omega) (fun (i0 : Nat) => (bif (impl_undoTx_1_v (gt x0 (i0 : Int)) x1_0) then (some (i0 : Int)) else none)) (fun i0 hs2 hi2 => by
  have hbn : x0.length ≤ 9223372036854775807 := (by have := h_x0; first | (have := this.1; omega) | omega)
  simp only [slices_IndexFunc_impl_Ref.l0_s]
  exact Evt_t2 (int_lt hi2) (StE.chk (by first | exact idx_ok (by omega) | exact idx_ok (by have hq := len_eq (by assumption); omega) | exact idx_found (show (0 : Int) ≤ (i0 : Int) by simp_all) | exact cut_ok (by omega) | exact or_ok (idx_ok (by omega)) | (refine or1 (fun hz => pre_ok (by simp at hz; omega) (by omega) (by omega))) | exact pre_ok (by omega) (by omega) (by omega) | (simp_all [idxOk, cutOk, leB]; done) | (simp_all [idxOk, cutOk, leB]; omega) | (simp [idxOk, cutOk, leB] at *; omega) | (have hf0 := h_x0.1; have hf1 := h_x1_0.1; simp only [leB, decide_eq_true_eq, List.length_append, List.length_cons, List.length_nil]; omega)) (StE.bind (impl_undoTx_1_ev (gt x0 (i0 : Int)) x1_0 (h_x1_0)) (StE.ifh (fun hc1 => (StE.ret _)) (fun hc1 => StE.next))))) (fun j hj => by
  simp only [slices_IndexFunc_impl_Ref.l0_s]
  exact Evt.f (ge_lt hj) (Evt.self _))) (fun _ => rfl) (Evt.self _))
def slices_ContainsFunc_impl_Ref_v (x0 : List Ref) (x1_0 : List Coin) : Bool := (decide (0 ≤ (slices_IndexFunc_impl_Ref_v x0 x1_0)))
theorem slices_ContainsFunc_impl_Ref_ev (x0 : List Ref) (x1_0 : List Coin) (h_x0 : (Lm smRef) x0) (h_x1_0 : (Lm smCoin) x1_0) : Evt (fun k => slices_ContainsFunc_impl_Ref.f k x0 x1_0) (slices_ContainsFunc_impl_Ref_v x0 x1_0) :=
  (Evt.bind (slices_IndexFunc_impl_Ref_ev x0 x1_0 (h_x0) (h_x1_0)) (Evt.self _))
theorem slices_ContainsFunc_impl_Ref_any (x0 : List Ref) (x1_0 : List Coin) : slices_ContainsFunc_impl_Ref_v x0 x1_0 = (List.range' 0 (x0.length - 0)).any (fun (i0 : Nat) => (impl_undoTx_1_v (gt x0 (i0 : Int)) x1_0)) := idx_any _ _
def slices_Clone_int64_v (x0 : List Int) : (List Int) := (([] : List Int) ++ x0)
theorem slices_Clone_int64_ev (x0 : List Int) (h_x0 : (Lm tr) x0) : Evt (fun k => slices_Clone_int64.f k x0) (slices_Clone_int64_v x0) :=
  (Evt.chk (by first | exact idx_ok (by omega) | exact idx_ok (by have hq := len_eq (by assumption); omega) | exact idx_found (by simp_all) | exact cut_ok (by omega) | exact or_ok (idx_ok (by omega)) | (refine or1 (fun hz => pre_ok (by simp at hz; omega) (by omega) (by omega))) | exact pre_ok (by omega) (by omega) (by omega) | (simp_all [idxOk, cutOk, leB]; done) | (simp_all [idxOk, cutOk, leB]; omega) | (simp [idxOk, cutOk, leB] at *; omega) | (have hf0 := h_x0.1; simp only [leB, decide_eq_true_eq, List.length_append, List.length_cons, List.length_nil]; omega)) (Evt.self _))
def impl_ownRule_v (x0 : Rule) : Rule := (⟨(slices_Clone_int64_v x0.fKeys), x0.fNeed, x0.fAfter⟩ : Rule)
theorem impl_ownRule_ev (x0 : Rule) (h_x0 : smRule x0) : Evt (fun k => impl_ownRule.f k x0) (impl_ownRule_v x0) :=
  (Evt.bind (slices_Clone_int64_ev x0.fKeys (h_x0.1)) (Evt.self _))
def impl_ownOut_v (x0 : Out) : Out := (⟨x0.fValue, (impl_ownRule_v x0.fRule)⟩ : Out)
theorem impl_ownOut_ev (x0 : Out) (h_x0 : smOut x0) : Evt (fun k => impl_ownOut.f k x0) (impl_ownOut_v x0) :=
  (Evt.bind (impl_ownRule_ev x0.fRule (h_x0.2)) (Evt.self _))
def impl_ownCoins_v (x0 : List Coin) : (List Coin) := ((List.range' 0 (x0.length - 0)).foldl (fun ac1 (i0 : Nat) => ((ac1 ++ ([(⟨(gt x0 (i0 : Int)).fRef, (impl_ownOut_v ((gt x0 (i0 : Int)).fOut)), (gt x0 (i0 : Int)).fHeight, (gt x0 (i0 : Int)).fMined⟩ : Coin)] : List Coin)))) ([] : List Coin))
theorem impl_ownCoins_ev (x0 : List Coin) (h_x0 : (Lm smCoin) x0) : Evt (fun k => impl_ownCoins.f k x0) (impl_ownCoins_v x0) :=
  (Evt.bind (Evt.gatherL (L := (fun k ac i => impl_ownCoins.l0 x0 k ac i)) x0.length (by have := h_x0; first | (have := this.1; omega) | omega) (fun ac1 (i0 : Nat) => ((ac1 ++ ([(⟨(gt x0 (i0 : Int)).fRef, (impl_ownOut_v ((gt x0 (i0 : Int)).fOut)), (gt x0 (i0 : Int)).fHeight, (gt x0 (i0 : Int)).fMined⟩ : Coin)] : List Coin)))) (fun i0 hi1 ac1 hgl => (by first | (simp only [List.length_append, List.length_cons, List.length_nil]; omega) | omega)) (fun i0 hi1 ac1 hgl o hg => by
  have hbn : x0.length ≤ 1048576 := (by have := h_x0; first | (have := this.1; omega) | omega)
  simp only [impl_ownCoins.l0_s]
  exact Evt.t (int_lt hi1) (Evt.chk (by first | (simp only [leB, decide_eq_true_eq, List.length_append, List.length_cons, List.length_nil]; omega) | exact idx_ok (by omega) | exact idx_ok (by have hq := len_eq (by assumption); omega) | exact idx_found (by simp_all) | exact cut_ok (by omega) | exact or_ok (idx_ok (by omega)) | (refine or1 (fun hz => pre_ok (by simp at hz; omega) (by omega) (by omega))) | exact pre_ok (by omega) (by omega) (by omega) | (simp_all [idxOk, cutOk, leB]; done) | (simp_all [idxOk, cutOk, leB]; omega) | (simp [idxOk, cutOk, leB] at *; omega) | (have hf0 := h_x0.1; simp only [leB, decide_eq_true_eq, List.length_append, List.length_cons, List.length_nil]; omega)) (Evt.bind (impl_ownOut_ev ((gt x0 (i0 : Int)).fOut) (((h_x0).2 _ (gt_mem (by first | omega | (have hq := len_eq (by assumption); omega) | (have hf0 := h_x0.1; simp only [leB, decide_eq_true_eq, List.length_append, List.length_cons, List.length_nil]; omega)))).2.1)) (Evt.chk (by first | (simp only [leB, decide_eq_true_eq, List.length_append, List.length_cons, List.length_nil]; omega) | exact idx_ok (by omega) | exact idx_ok (by have hq := len_eq (by assumption); omega) | exact idx_found (by simp_all) | exact cut_ok (by omega) | exact or_ok (idx_ok (by omega)) | (refine or1 (fun hz => pre_ok (by simp at hz; omega) (by omega) (by omega))) | exact pre_ok (by omega) (by omega) (by omega) | (simp_all [idxOk, cutOk, leB]; done) | (simp_all [idxOk, cutOk, leB]; omega) | (simp [idxOk, cutOk, leB] at *; omega) | (have hf0 := h_x0.1; simp only [leB, decide_eq_true_eq, List.length_append, List.length_cons, List.length_nil]; omega)) hg)))) (fun j ac hj => by
  simp only [impl_ownCoins.l0_s]
  exact Evt.f (ge_lt hj) (Evt.self _))) (Evt.self _))
theorem ownRule_id (r : Rule) : impl_ownRule_v r = r := by simp [impl_ownRule_v, slices_Clone_int64_v]
theorem ownOut_id (x : Out) : impl_ownOut_v x = x := by simp [impl_ownOut_v, ownRule_id]
theorem ownCoins_id (x0 : List Coin) : impl_ownCoins_v x0 = x0 := by
  have h := range_foldl x0 (fun ac (x : Coin) => ac ++ [(⟨x.fRef, impl_ownOut_v x.fOut, x.fHeight, x.fMined⟩ : Coin)]) []
  refine Eq.trans h ?_
  rw [fold_map]
  simp only [ownOut_id]
  simp
def slices_DeleteFunc_Coin_v2_v (x0 : List Coin) (x1_0 : Int) : List Coin := x0.filter (fun c => c.fRef.fTx != x1_0)
theorem delFunc2_ev (x0 : List Coin) (x1_0 : Int) (h : Lm smCoin x0) : Evt (fun k => slices_DeleteFunc_Coin_v2.f k x0 x1_0) (slices_DeleteFunc_Coin_v2_v x0 x1_0) := Evt.chk (leB_of h.1) (Evt.ret (List.filter_congr fun c _ => by show (!(c.fRef.fTx == x1_0)) = _; rfl))
theorem sortFunc_ev (x0 : List Coin) (hn : x0.length ≤ 1000000) (hd : (x0.map refKey).Nodup) : Evt (fun k => slices_SortFunc_Coin.f k x0) (x0.mergeSort refLe) := by
  refine Evt.chk ?_ (Evt.self _)
  rw [leB_of hn, decide_eq_true hd]; rfl
theorem sorted_ev (x0 : List Coin) (hn : x0.length ≤ 1000000) (hd : (x0.map refKey).Nodup) : Evt (fun k => impl_sorted.f k x0) (x0.mergeSort refLe) := Evt.bind (sortFunc_ev x0 hn hd) (Evt.self _)
theorem contains_ref (xs : List Ref) (x : Ref) : slices_Contains_impl_Ref_v xs x = spec_l3Among_v xs x := by
  have e : (fun i : Nat => (x.fTx == (gt xs (i : Int)).fTx) && (x.fAt == (gt xs (i : Int)).fAt)) = fun i : Nat => ((gt xs (i : Int)).fTx == x.fTx) && ((gt xs (i : Int)).fAt == x.fAt) := by funext i; rw [BEq.comm (a := x.fTx), BEq.comm (a := x.fAt)]
  rw [slices_Contains_impl_Ref_any, e]; simp only [spec_l3Among_v, found_any, bifb]
theorem among_iff (xs : List Ref) (x : Ref) : spec_l3Among_v xs x = true ↔ x ∈ xs := by
  unfold spec_l3Among_v
  rw [found_any]
  constructor
  · intro h
    rw [bifb, List.any_eq_true] at h
    obtain ⟨i, hi, hp⟩ := h
    have hlt : i < xs.length := by rw [List.mem_range'_1] at hi; omega
    rw [Bool.and_eq_true, beq_iff_eq, beq_iff_eq] at hp
    have : gt xs (i : Int) = x := by
      cases hq : gt xs (i : Int); cases x
      rw [hq] at hp
      simp only at hp
      rw [hp.1, hp.2]
    rw [← this]; exact gt_mem hlt
  · intro h
    obtain ⟨i, hi, rfl⟩ := List.getElem_of_mem h
    rw [bifb, List.any_eq_true]
    refine ⟨i, by rw [List.mem_range'_1]; omega, ?_⟩
    rw [gt_eq (by simpa using hi)]
    simp
theorem findCoin_key (x0 : List Coin) (x1 : Ref) (rise : ∀ a b : Nat, a < b → b < x0.length → lexL (gt x0 (a : Int)).fRef (gt x0 (b : Int)).fRef) : (List.range' 0 (x0.length - 0)).findSome? (fun i : Nat => bif (((gt x0 (i : Int)).fRef.fTx == x1.fTx) && ((gt x0 (i : Int)).fRef.fAt == x1.fAt)) then some (i : Int) else none) = bif (impl_findCoin_v x0 x1).2 then some (impl_findCoin_v x0 x1).1 else none := by
  have hc0 : ∀ i : Nat, impl_findCoin_1_v (gt x0 (i : Int)) x1 = 0 ↔ (gt x0 (i : Int)).fRef.fTx = x1.fTx ∧ (gt x0 (i : Int)).fRef.fAt = x1.fAt := fun i => compareRefs_zero _ _
  have hcl : ∀ i : Nat, impl_findCoin_1_v (gt x0 (i : Int)) x1 < 0 ↔ lexL (gt x0 (i : Int)).fRef x1 := fun i => compareRefs_lt _ _
  have key := bs_find x0.length (fun i => impl_findCoin_1_v (gt x0 (i : Int)) x1) (fun a b hab hb hlt => by
    rw [hcl] at hlt ⊢
    rcases Nat.lt_or_eq_of_le hab with h1 | h1
    · exact lex_trans (rise a b h1 hb) hlt
    · subst h1; exact hlt) (fun a b hab hb h0 => by
    rw [hc0] at h0
    rw [hcl]
    have := rise a b hab hb
    unfold lexL at *; omega) default
  have e : (fun i : Nat => bif (((gt x0 (i : Int)).fRef.fTx == x1.fTx) && ((gt x0 (i : Int)).fRef.fAt == x1.fAt)) then some (i : Int) else none) = fun i : Nat => bif impl_findCoin_1_v (gt x0 (i : Int)) x1 == 0 then some (i : Int) else none := by
    funext i
    have : (((gt x0 (i : Int)).fRef.fTx == x1.fTx) && ((gt x0 (i : Int)).fRef.fAt == x1.fAt)) = (impl_findCoin_1_v (gt x0 (i : Int)) x1 == 0) := by
      rw [Bool.eq_iff_iff, Bool.and_eq_true, beq_iff_eq, beq_iff_eq, beq_iff_eq]; exact (hc0 i).symm
    rw [this]
  rw [e, key]
  rfl
theorem ref_ext {a b : Ref} (h1 : a.fTx = b.fTx) (h2 : a.fAt = b.fAt) : a = b := by
  cases a; cases b; simp only at h1 h2; subst h1; subst h2; rfl
theorem find_no {x0 : List Coin} {r : Ref} (h : Rise x0) (hf : (impl_findCoin_v x0 r).2 = false) : ∀ c ∈ x0, c.fRef ≠ r := fun c hc e => by
  have hk := findCoin_key x0 r h.lt
  rw [hf, cond_false] at hk
  obtain ⟨i, hi, rfl⟩ := List.getElem_of_mem hc
  have := fs_all hk i hi
  rw [gt_eq (by simpa using hi)] at this
  simp only [Int.toNat_natCast] at this
  rw [e] at this
  simp at this
theorem find_of {x0 : List Coin} {c : Coin} (h : Rise x0) (hc : c ∈ x0) : (impl_findCoin_v x0 c.fRef).2 = true := by
  cases hf : (impl_findCoin_v x0 c.fRef).2
  · exact absurd rfl (find_no h hf c hc)
  · rfl
theorem three_all {a : Bool} {q : Int} {b : Bool} (h : (bif a then some (3 : Int) else bif q != 0 then some q else bif b then some 1 else none) = none) : a = false ∧ q = 0 := by
  cases a
  · cases hq : q != 0
    · exact ⟨rfl, by simpa using hq⟩
    · rw [hq] at h; cases h
  · cases h
def okC (c : Coin) : Prop := ((!(spec_l3Ref_v c.fRef)) || (!(bif (!(!(spec_l3Ref_v c.fRef))) then (spec_l2Height_v c.fHeight) else default))) = false ∧ spec_l4Out_v c.fOut = 0
theorem fault_parts {x0 : List Coin} (h : spec_l4Fault_v x0 = 0) : ∀ c ∈ x0, okC c := fun c hc => by
  unfold spec_l4Fault_v at h
  cases hd : decide (40 < (x0.length : Int))
  · rw [hd] at h
    obtain ⟨h1, _⟩ := onO_zero h (fun i => three_ne _ _ _)
    obtain ⟨i, hi, rfl⟩ := List.getElem_of_mem hc
    have := three_all (fs_all h1 i hi)
    rw [gt_eq (by simpa using hi)] at this
    simp only [Int.toNat_natCast] at this
    exact this
  · rw [hd] at h; exact absurd (show (2 : Int) = 0 from h) (by decide)
theorem rany {α : Type} [Inhabited α] (xs : List α) (p : α → Bool) : (List.range' 0 (xs.length - 0)).any (fun i => p (gt xs (i : Int))) = xs.any p := by
  rw [Bool.eq_iff_iff, List.any_eq_true, List.any_eq_true]
  constructor
  · rintro ⟨i, hi, hp⟩
    exact ⟨_, gt_mem (in_range hi), hp⟩
  · rintro ⟨x, hx, hp⟩
    obtain ⟨i, hi, rfl⟩ := List.getElem_of_mem hx
    refine ⟨i, by rw [List.mem_range'_1]; omega, ?_⟩
    rw [gt_eq (by simpa using hi)]
    simpa using hp
theorem l4Add_rise (x : Coin) : ∀ (l : List Coin), l.Pairwise (fun a b => lexL a.fRef b.fRef) → (∀ c ∈ l, refKey c ≠ refKey x) → (spec_l4Add_v l x).Pairwise (fun a b => lexL a.fRef b.fRef)
  | [], _, _ => by rw [l4Add_nil]; simp
  | c :: l, h, hx => by
    rw [List.pairwise_cons] at h
    rw [l4Add_cons]
    by_cases hc : spec_l4Ahead_v c.fRef x.fRef = true
    · rw [if_pos hc, List.pairwise_cons]
      refine ⟨fun y hy => ?_, l4Add_rise x l h.2 (fun d hd => hx d (by simp [hd]))⟩
      have hy' := (l4Add_perm x l).mem_iff.1 hy
      rcases List.mem_append.1 hy' with hy' | hy'
      · exact h.1 y hy'
      · simp at hy'; subst hy'; exact (ahead_lex _ _).1 hc
    · rw [if_neg hc, List.pairwise_cons, List.pairwise_cons]
      have hxc : lexL x.fRef c.fRef := by
        have h1 : ¬ lexL c.fRef x.fRef := fun h => hc ((ahead_lex _ _).2 h)
        have h2 := hx c (by simp)
        unfold lexL at *
        have h3 : ¬ (c.fRef.fTx = x.fRef.fTx ∧ c.fRef.fAt = x.fRef.fAt) := fun e => h2 (by unfold refKey; rw [e.1, e.2])
        omega
      refine ⟨fun y hy => ?_, h.1, h.2⟩
      rcases List.mem_cons.1 hy with rfl | hy
      · exact hxc
      · exact lex_trans hxc (h.1 y hy)
theorem addAll_rise : ∀ (xs s : List Coin), (s.Pairwise fun a b => lexL a.fRef b.fRef) → (xs.Pairwise fun a b => lexL a.fRef b.fRef) → (∀ c ∈ xs, ∀ d ∈ s, d.fRef ≠ c.fRef) → (xs.foldl spec_l4Add_v s).Pairwise fun a b => lexL a.fRef b.fRef
  | [], s, h, _, _ => h
  | x :: xs, s, h, hx, hd => by
    rw [List.pairwise_cons] at hx
    rw [List.foldl_cons]
    refine addAll_rise xs _ (l4Add_rise x s h fun c hc e => ?_) hx.2 fun c hc d hd' => ?_
    · have e1 := (Prod.mk.inj (show (c.fRef.fTx, c.fRef.fAt) = (x.fRef.fTx, x.fRef.fAt) from e)).1
      have e2 := (Prod.mk.inj (show (c.fRef.fTx, c.fRef.fAt) = (x.fRef.fTx, x.fRef.fAt) from e)).2
      exact hd x (by simp) c hc (ref_ext e1 e2)
    · rcases List.mem_append.1 ((l4Add_perm x s).mem_iff.1 hd') with h' | h'
      · exact hd c (by simp [hc]) d h'
      · simp at h'; subst h'
        intro e
        have := hx.1 c hc
        rw [e] at this
        unfold lexL at this; omega
theorem back_sort (x0 : List Coin) (x2 : Int) (x3 : List Coin) (hr : Rise x0) (hr3 : Rise x3) (hno : ∀ c ∈ x3, ∀ d ∈ x0, d.fRef ≠ c.fRef) : (spec_l5Back_v x0 x2 x3).Pairwise (fun a b => lexL a.fRef b.fRef) ∧ (notId x0 x2 ++ x3).mergeSort refLe = spec_l5Back_v x0 x2 x3 ∧ ((notId x0 x2 ++ x3).map refKey).Nodup := by
  have h1 : (spec_l5Back_v x0 x2 x3).Pairwise (fun a b => lexL a.fRef b.fRef) := addAll_rise x3 _ (hr.2.sublist (notId_sub x0 x2)) hr3.2 fun c hc d hd => hno c hc d ((notId_sub x0 x2).subset hd)
  have h2 : (spec_l5Back_v x0 x2 x3).Perm (notId x0 x2 ++ x3) := l5Back_perm x3 _
  exact ⟨h1, sort_uniq h2 h1, ((h2.map refKey).nodup_iff).1 (rise_keys h1)⟩
theorem areOf_eq (x3 : List Coin) (ins : List Ref) : impl_areOf_v x3 ins = (((x3.length : Int) == (ins.length : Int)) && x3.all (fun c => spec_l3Among_v ins c.fRef)) := by
  have e : slices_ContainsFunc_impl_Coin_v x3 ins = x3.any (fun c => !(spec_l3Among_v ins c.fRef)) := by
    rw [slices_ContainsFunc_impl_Coin_any]
    simp only [impl_areOf_1_v, contains_ref]
    exact rany x3 (fun c => !(spec_l3Among_v ins c.fRef))
  unfold impl_areOf_v
  rw [e]
  cases ((x3.length : Int) == (ins.length : Int))
  · rfl
  · simp only [cond_true, Bool.true_and]
    rw [List.all_eq_not_any_not]
theorem insAny_eq (ins : List Ref) (x0 : List Coin) : slices_ContainsFunc_impl_Ref_v ins x0 = ins.any (fun r => (impl_findCoin_v x0 r).2) := by
  rw [slices_ContainsFunc_impl_Ref_any]
  simp only [impl_undoTx_1_v]
  exact rany ins (fun r => (impl_findCoin_v x0 r).2)
theorem undo_no {x0 x3 : List Coin} {ins : List Ref} (hr : Rise x0) (ha : impl_areOf_v x3 ins = true) (hk : ins.any (fun r => (impl_findCoin_v x0 r).2) = false) : ∀ c ∈ x3, ∀ d ∈ x0, d.fRef ≠ c.fRef := fun c hc d hd e => by
  rw [areOf_eq, Bool.and_eq_true] at ha
  have h1 := (among_iff _ _).1 (List.all_eq_true.1 ha.2 c hc)
  rw [List.any_eq_false] at hk
  have h2 := hk _ h1
  rw [← e] at h2
  exact h2 (find_of hr hd)
def impl_undoTx_v (x0 : List Coin) (x1 : Tx) (x2 : Int) (x3 : List Coin) : (List Coin) × Int := bif !(impl_isId_v x2) then ([], 3) else bif !(impl_areOf_v x3 x1.fIns) then ([], 1) else bif !(impl_areMade_v x0 x2 x1.fOuts) then ([], 4) else bif x1.fIns.any (fun r => (impl_findCoin_v x0 r).2) then ([], 7) else bif decide (40 < ((spec_l5Back_v x0 x2 x3).length : Int)) then ([], 2) else (spec_l5Back_v x0 x2 x3, 0)
theorem impl_undoTx_ev (x0 : List Coin) (x1 : Tx) (x2 : Int) (x3 : List Coin) (h0 : Lm smCoin x0) (h1 : smTx x1) (h3 : Lm smCoin x3) (f0 : spec_l4Fault_v x0 = 0) (f3 : spec_l4Fault_v x3 = 0) : Evt (fun k => impl_undoTx.f k x0 x1 x2 x3) (impl_undoTx_v x0 x1 x2 x3) := by
  have hr := rise_of h0 f0
  have hr3 := rise_of h3 f3
  have l0 := fault_len f0
  have l3 := fault_len f3
  refine Evt.bind (impl_isId_ev x2) (Evt.ifh (fun _ => Evt.self _) (fun _ => Evt.bind (impl_areOf_ev x3 x1.fIns h3 h1.2.2.1) (Evt.ifh (fun _ => Evt.self _) (fun ha => Evt.bind (impl_areMade_ev x0 x2 x1.fOuts h0 h1.2.2.2) (Evt.ifh (fun _ => Evt.self _) (fun _ => Evt.bind ((slices_ContainsFunc_impl_Ref_ev x1.fIns x0 h1.2.2.1 h0).to (insAny_eq _ _)) (Evt.ifh (fun _ => Evt.self _) (fun hk => ?_))))))))
  obtain ⟨_, s2, s3⟩ := back_sort x0 x2 x3 hr hr3 (undo_no hr (notF ha) hk)
  have e0 := impl_ownCoins_ev x0 h0
  rw [ownCoins_id] at e0
  have e3 := impl_ownCoins_ev x3 h3
  rw [ownCoins_id] at e3
  have hn := (notId_sub x0 x2).length_le
  have es := sorted_ev (notId x0 x2 ++ x3) (by rw [List.length_append]; omega) s3
  rw [s2] at es
  exact Evt.bind e0 (Evt.bind (delFunc2_ev x0 x2 h0) (Evt.bind e3 (Evt.chk (leB_of (by show ((notId x0 x2).length + x3.length) * 80 ≤ _; omega)) (Evt.bind es (Evt.if_ (Evt.self _) (Evt.self _))))))
theorem txFault_same (x0 : Tx) : impl_TxFault_v x0 = spec_l3Fault_v x0 := by
  have e1 : ∀ n : Int, impl_TxFault_1_v n = !(spec_l1In_v n 1 4) := fun n => rng1
  have e2 : ∀ x : Out, (bif ((impl_outFault_v x) != 0) then (some (impl_outFault_v x)) else none) = (bif !(spec_l1In_v x.fValue 1 1000000) then (some 3) else (bif ((spec_l2Fault_v x.fRule) != 0) then (some (spec_l2Fault_v x.fRule)) else none)) := by
    intro x
    have e : impl_outFault_v x = bif !(spec_l1In_v x.fValue 1 1000000) then 3 else spec_l2Fault_v x.fRule := by simp only [impl_outFault_v, ruleFault_same, impl_within_v, spec_l1In_v]
    rw [e]
    cases spec_l1In_v x.fValue 1 1000000 <;> rfl
  have e3 : ∀ n a b : Int, impl_within_v n a b = spec_l1In_v n a b := fun _ _ _ => rfl
  have e4 : ∀ n : Int, impl_isKey_v n = spec_l1Key_v n := fun _ => rfl
  simp only [impl_TxFault_v, spec_l3Fault_v, spec_l3Outs_v, e1, e2, e3, e4, refs_same, contains_ref]
  simp only [bne]
  generalize spec_l1In_v (x0.fIns.length : Int) 1 4 = a
  generalize spec_l1In_v (x0.fOuts.length : Int) 1 4 = b
  generalize spec_l1In_v x0.fKind 0 2 = c
  generalize spec_l1Key_v x0.fMember = d
  generalize (x0.fKind == 0) = e
  generalize (x0.fMember == 0) = f
  cases a <;> cases b <;> cases c <;> cases d <;> cases e <;> cases f <;> rfl
def uk3 (a b c : Int) : CoinsResult ⊕ Unit := bif a != 0 then .inl ⟨a, []⟩ else bif b != 0 then .inl ⟨b, []⟩ else bif c != 0 then .inl ⟨c, []⟩ else .inr ()
theorem uk3_ev (a b c : Int) : Evt (fun k => impl_UndoTx.l0 a b c k 0) (uk3 a b c) := by
  have w0 : wrap64 ((0 : Int) + 1) = 1 := by rw [wrap64_in _ (by omega)]; rfl
  have w1 : wrap64 ((1 : Int) + 1) = 2 := by rw [wrap64_in _ (by omega)]; rfl
  have w2 : wrap64 ((2 : Int) + 1) = 3 := by rw [wrap64_in _ (by omega)]; rfl
  have g0 : gt [a, b, c] (0 : Int) = a := rfl
  have g1 : gt [a, b, c] (1 : Int) = b := rfl
  have g2 : gt [a, b, c] (2 : Int) = c := rfl
  unfold uk3
  refine Evt.s ?_
  simp only [impl_UndoTx.l0_s, g0, w0]
  refine Evt.t rfl (Evt.chk rfl ?_)
  cases a != 0
  · refine Evt.f rfl (Evt.s ?_)
    simp only [impl_UndoTx.l0_s, g1, w1]
    refine Evt.t rfl (Evt.chk rfl ?_)
    cases b != 0
    · refine Evt.f rfl (Evt.s ?_)
      simp only [impl_UndoTx.l0_s, g2, w2]
      refine Evt.t rfl (Evt.chk rfl ?_)
      cases c != 0
      · refine Evt.f rfl (Evt.s ?_)
        simp only [impl_UndoTx.l0_s]
        exact Evt.f rfl (Evt.self _)
      · exact Evt.t rfl (Evt.self _)
    · exact Evt.t rfl (Evt.self _)
  · exact Evt.t rfl (Evt.self _)
def impl_UndoTx_v (x0 : List Coin) (x1 : Tx) (x2 : Int) (x3 : List Coin) : CoinsResult := bif impl_CoinsFault_v x0 != 0 then ⟨impl_CoinsFault_v x0, []⟩ else bif impl_CoinsFault_v x3 != 0 then ⟨impl_CoinsFault_v x3, []⟩ else bif impl_TxFault_v x1 != 0 then ⟨impl_TxFault_v x1, []⟩ else ⟨(impl_undoTx_v x0 x1 x2 x3).2, (impl_undoTx_v x0 x1 x2 x3).1⟩
theorem impl_UndoTx_ev (x0 : List Coin) (x1 : Tx) (x2 : Int) (x3 : List Coin) (h0 : Lm smCoin x0) (h1 : smTx x1) (h3 : Lm smCoin x3) : Evt (fun k => impl_UndoTx.f k x0 x1 x2 x3) (impl_UndoTx_v x0 x1 x2 x3) := by
  refine Evt.bind (a := uk3 (impl_CoinsFault_v x0) (impl_CoinsFault_v x3) (impl_TxFault_v x1)) (Evt.bind (impl_CoinsFault_ev x0 h0) (Evt.bind (impl_CoinsFault_ev x3 h3) (Evt.bind (impl_TxFault_ev x1 h1) (uk3_ev _ _ _)))) ?_
  unfold impl_UndoTx_v uk3
  cases ha : impl_CoinsFault_v x0 != 0
  · cases hb : impl_CoinsFault_v x3 != 0
    · cases hc : impl_TxFault_v x1 != 0
      · rw [coinsFault_same] at ha hb
        exact Evt.bind (impl_undoTx_ev x0 x1 x2 x3 h0 h1 h3 (by simpa using ha) (by simpa using hb)) (Evt.self _)
      · exact Evt.self _
    · exact Evt.self _
  · exact Evt.self _
theorem fault_at {x0 : List Coin} (h : spec_l4Fault_v x0 = 0) : ∀ c ∈ x0, 0 ≤ c.fRef.fAt := fun c hc => by
  have h1 := (fault_parts h c hc).1
  cases hr : spec_l3Ref_v c.fRef
  · rw [hr] at h1; cases h1
  · unfold spec_l3Ref_v spec_l1In_v at hr
    simp only [Bool.and_eq_true, decide_eq_true_eq] at hr
    generalize c.fRef.fTx = a at hr
    generalize c.fRef.fAt = b at hr
    clear h1
    have h2 : (decide (1 ≤ a) && decide (a ≤ 60)) = true := by simp; omega
    rw [h2] at hr
    simp at hr
    omega
theorem undo_l0 (x0 : List Coin) (x1 : Tx) (h0 : Lm smCoin x0) (h1 : smTx x1) : ∀ (d i : Nat), i + d = x1.fIns.length → Evt (fun k => spec_UndoTx.l0 x0 x1 k (i : Int)) (bif (x1.fIns.drop i).any (fun r => decide (0 ≤ spec_l4At_v x0 r)) then .inl ⟨7, []⟩ else .inr ())
  | 0, i, hd => by
    refine Evt.s ?_
    simp only [spec_UndoTx.l0_s]
    rw [List.drop_of_length_le (by omega)]
    exact Evt.f (ge_lt (by omega)) (Evt.self _)
  | d + 1, i, hd => by
    have hl := h1.2.2.1.1
    have hi : i < x1.fIns.length := by omega
    have ed : x1.fIns.drop i = gt x1.fIns (i : Int) :: x1.fIns.drop (i + 1) := by rw [gt_eq (by simpa using hi)]; simp only [Int.toNat_natCast]; exact List.drop_eq_getElem_cons hi
    have ih := undo_l0 x0 x1 h0 h1 d (i + 1) (by omega)
    refine Evt.s ?_
    simp only [spec_UndoTx.l0_s]
    rw [ed, w64 hi (by omega), List.any_cons]
    refine Evt.t (int_lt hi) (Evt.chk (idx_ok hi) (Evt.bind (spec_l4At_ev x0 _ h0) ?_))
    cases decide (0 ≤ spec_l4At_v x0 (gt x1.fIns (i : Int)))
    · exact Evt.f rfl ih
    · exact Evt.t rfl (Evt.self _)
def spec_UndoTx_v (x0 : List Coin) (x1 : Tx) (x2 : Int) (x3 : List Coin) : CoinsResult := bif spec_l4Fault_v x0 != 0 then ⟨spec_l4Fault_v x0, []⟩ else bif spec_l4Fault_v x3 != 0 then ⟨spec_l4Fault_v x3, []⟩ else bif spec_l3Fault_v x1 != 0 then ⟨spec_l3Fault_v x1, []⟩ else bif !(spec_l1In_v x2 1 60) then ⟨3, []⟩ else bif (!(spec_l5Spent_v x3 x1).2) || (((spec_l5Spent_v x3 x1).1.length : Int) != (x3.length : Int)) then ⟨1, []⟩ else bif !(spec_l5Made_v x0 x1 x2) then ⟨4, []⟩ else bif x1.fIns.any (fun r => decide (0 ≤ spec_l4At_v x0 r)) then ⟨7, []⟩ else bif decide (40 < ((spec_l5Back_v x0 x2 x3).length : Int)) then ⟨2, []⟩ else ⟨0, spec_l5Back_v x0 x2 x3⟩
theorem spec_UndoTx_ev (x0 : List Coin) (x1 : Tx) (x2 : Int) (x3 : List Coin) (h0 : Lm smCoin x0) (h1 : smTx x1) (h3 : Lm smCoin x3) : Evt (fun k => spec_UndoTx.f k x0 x1 x2 x3) (spec_UndoTx_v x0 x1 x2 x3) := by
  have e0 := undo_l0 x0 x1 h0 h1 x1.fIns.length 0 (by omega)
  rw [List.drop_zero] at e0
  refine Evt.bind (spec_l4Fault_ev x0 h0) (Evt.ifh (fun _ => Evt.self _) (fun ha => Evt.bind (spec_l4Fault_ev x3 h3) (Evt.ifh (fun _ => Evt.self _) (fun hb => Evt.bind (spec_l3Fault_ev x1 h1) (Evt.ifh (fun _ => Evt.self _) (fun _ => Evt.bind (spec_l1In_ev x2 1 60) (Evt.ifh (fun _ => Evt.self _) (fun _ => Evt.bind (spec_l5Spent_ev x3 x1 h3 h1) (Evt.ifh (fun _ => Evt.self _) (fun _ => ?_))))))))))
  have f0 : spec_l4Fault_v x0 = 0 := by simpa using ha
  have f3 : spec_l4Fault_v x3 = 0 := by simpa using hb
  have l0 := fault_len f0
  have l3 := fault_len f3
  refine Evt.bind (spec_l5Made_ev x0 x1 x2 h0 h1 (fault_at f0)) (Evt.ifh (fun _ => Evt.self _) (fun _ => Evt.bind e0 ?_))
  cases x1.fIns.any (fun r => decide (0 ≤ spec_l4At_v x0 r))
  · exact Evt.bind (spec_l5Back_ev x0 x2 x3 h0 h3 (by omega)) (Evt.if_ (Evt.self _) (Evt.self _))
  · exact Evt.self _
theorem szInt64S_ev (x : List Int) (o : (Lok (iOk .i64)) x) (l : Int) (h0 : 0 ≤ l) (h1 : l ≤ 1048576) : ∃ t, Evt (fun k => laws_szInt64S.f k x l) t ∧ t ≤ l ∧ (0 ≤ t → (Lm tr) x) := by
  have hn := o.1
  exact ⟨szL x.length l, Evt.if_ (Evt.self _) (Evt.self _), szL_le h0 h1 hn, fun h => ⟨by have := szL_ok (n := x.length) (l := l) (by simpa using h) h0 h1 hn; omega, by simp⟩⟩
theorem szRule_ev (x : Rule) (o : okRule x) (l : Int) (h0 : 0 ≤ l) (h1 : l ≤ 1048576) : ∃ t, Evt (fun k => laws_szRule.f k x l) t ∧ t ≤ l ∧ (0 ≤ t → smRule x) := by
  obtain ⟨t0, e0, l0, s0⟩ := szInt64S_ev x.fKeys o.1 l (by omega) (by omega)
  by_cases c0 : t0 < 0
  · exact ⟨-1, Evt.bind e0 (Evt.t (by simpa using c0) (Evt.self _)), by omega, fun h => by omega⟩
  exact ⟨t0, Evt.bind e0 (Evt.f (by simpa using c0) (Evt.self _)), by omega, fun _ => ⟨s0 (by omega), (by repeat' (first | trivial | constructor)), (by repeat' (first | trivial | constructor))⟩⟩
theorem szOut_ev (x : Out) (o : okOut x) (l : Int) (h0 : 0 ≤ l) (h1 : l ≤ 1048576) : ∃ t, Evt (fun k => laws_szOut.f k x l) t ∧ t ≤ l ∧ (0 ≤ t → smOut x) := by
  obtain ⟨t0, e0, l0, s0⟩ := szRule_ev x.fRule o.2 l (by omega) (by omega)
  by_cases c0 : t0 < 0
  · exact ⟨-1, Evt.bind e0 (Evt.t (by simpa using c0) (Evt.self _)), by omega, fun h => by omega⟩
  exact ⟨t0, Evt.bind e0 (Evt.f (by simpa using c0) (Evt.self _)), by omega, fun _ => ⟨(by repeat' (first | trivial | constructor)), s0 (by omega)⟩⟩
theorem szCoin_ev (x : Coin) (o : okCoin x) (l : Int) (h0 : 0 ≤ l) (h1 : l ≤ 1048576) : ∃ t, Evt (fun k => laws_szCoin.f k x l) t ∧ t ≤ l ∧ (0 ≤ t → smCoin x) := by
  obtain ⟨t0, e0, l0, s0⟩ := szOut_ev x.fOut o.2.1 l (by omega) (by omega)
  by_cases c0 : t0 < 0
  · exact ⟨-1, Evt.bind e0 (Evt.t (by simpa using c0) (Evt.self _)), by omega, fun h => by omega⟩
  exact ⟨t0, Evt.bind e0 (Evt.f (by simpa using c0) (Evt.self _)), by omega, fun _ => ⟨(by repeat' (first | trivial | constructor)), s0 (by omega), (by repeat' (first | trivial | constructor)), (by repeat' (first | trivial | constructor))⟩⟩
theorem szCoinS_ev (x : List Coin) (o : (Lok okCoin) x) (l : Int) (h0 : 0 ≤ l) (h1 : l ≤ 1048576) : ∃ t, Evt (fun k => laws_szCoinS.f k x l) t ∧ t ≤ l ∧ (0 ≤ t → (Lm smCoin) x) := by
  have hn := o.1
  have hn' : x.length ≤ 9223372036854775807 := by simpa [maxLen] using hn
  by_cases c : decide (szL x.length l < 0) = true
  · refine ⟨-1, (Evt.t (f := fun _ => some (-1)) ?_ (Evt.self _)), by omega, fun h => by omega⟩
    have e : wrap64 (l - (x.length : Int)) = l - (x.length : Int) := by unfold wrap64; omega
    rw [e]
    by_cases c2 : l - (x.length : Int) < 0
    · exact decide_eq_true c2
    · unfold szL at c; rw [e, decide_eq_false c2] at c; simp at c; omega
  have c' : decide (szL x.length l < 0) = false := by simpa using c
  obtain ⟨h2, h3⟩ := szL_ok c' h0 h1 hn
  have e : wrap64 (l - (x.length : Int)) = l - (x.length : Int) := by unfold wrap64; omega
  obtain ⟨r, hr, hr2⟩ := Evt.szl (L := fun k left i => laws_szCoinS.l0 x k left i) (sm := smCoin) x hn' (fun i hi left a0 a1 => by
    obtain ⟨t, e1, e2, e3⟩ := szCoin_ev (gt x (i : Int)) (o.2 _ (gt_mem hi)) left a0 a1
    refine ⟨t, e2, e3, fun c => ?_, fun o c ho => ?_⟩
    · refine Evt.s ?_
      simp only [laws_szCoinS.l0_s]
      exact Evt.t (int_lt hi) (Evt.chk (idx_ok hi) (Evt.bind e1 (Evt.t (by simpa using c) (Evt.self _))))
    · refine Evt.s ?_
      simp only [laws_szCoinS.l0_s]
      exact Evt.t (int_lt hi) (Evt.chk (idx_ok hi) (Evt.bind e1 (Evt.f (by simpa using c) ho)))) (fun left => by
    refine Evt.s ?_
    simp only [laws_szCoinS.l0_s]
    exact Evt.f int_nlt (Evt.self _)) (l - (x.length : Int)) (by omega) (by omega)
  refine ⟨onw r id id, Evt.f (by rw [e]; simpa using h2) (Evt.thn (r' := id) (g' := id) (by rw [e]; exact hr) (fun _ => rfl) (fun y _ => Evt.self y)), ?_, ?_⟩
  · cases r with
    | inl r => have h5 : r = -1 := hr2; subst h5; show (-1 : Int) ≤ l; omega
    | inr t => have h5 : 0 ≤ t ∧ t ≤ l - (x.length : Int) ∧ _ := hr2; show t ≤ l; omega
  · intro h
    cases r with
    | inl r => have h5 : r = -1 := hr2; subst h5; simp [onw] at h
    | inr t => have h5 : 0 ≤ t ∧ t ≤ l - (x.length : Int) ∧ _ := hr2; exact ⟨by omega, h5.2.2⟩
theorem szRefS_ev (x : List Ref) (o : (Lok okRef) x) (l : Int) (h0 : 0 ≤ l) (h1 : l ≤ 1048576) : ∃ t, Evt (fun k => laws_szRefS.f k x l) t ∧ t ≤ l ∧ (0 ≤ t → (Lm smRef) x) := by
  have hn := o.1
  exact ⟨szL x.length l, Evt.if_ (Evt.self _) (Evt.self _), szL_le h0 h1 hn, fun h => ⟨by have := szL_ok (n := x.length) (l := l) (by simpa using h) h0 h1 hn; omega, by simp⟩⟩
theorem szOutS_ev (x : List Out) (o : (Lok okOut) x) (l : Int) (h0 : 0 ≤ l) (h1 : l ≤ 1048576) : ∃ t, Evt (fun k => laws_szOutS.f k x l) t ∧ t ≤ l ∧ (0 ≤ t → (Lm smOut) x) := by
  have hn := o.1
  have hn' : x.length ≤ 9223372036854775807 := by simpa [maxLen] using hn
  by_cases c : decide (szL x.length l < 0) = true
  · refine ⟨-1, (Evt.t (f := fun _ => some (-1)) ?_ (Evt.self _)), by omega, fun h => by omega⟩
    have e : wrap64 (l - (x.length : Int)) = l - (x.length : Int) := by unfold wrap64; omega
    rw [e]
    by_cases c2 : l - (x.length : Int) < 0
    · exact decide_eq_true c2
    · unfold szL at c; rw [e, decide_eq_false c2] at c; simp at c; omega
  have c' : decide (szL x.length l < 0) = false := by simpa using c
  obtain ⟨h2, h3⟩ := szL_ok c' h0 h1 hn
  have e : wrap64 (l - (x.length : Int)) = l - (x.length : Int) := by unfold wrap64; omega
  obtain ⟨r, hr, hr2⟩ := Evt.szl (L := fun k left i => laws_szOutS.l0 x k left i) (sm := smOut) x hn' (fun i hi left a0 a1 => by
    obtain ⟨t, e1, e2, e3⟩ := szOut_ev (gt x (i : Int)) (o.2 _ (gt_mem hi)) left a0 a1
    refine ⟨t, e2, e3, fun c => ?_, fun o c ho => ?_⟩
    · refine Evt.s ?_
      simp only [laws_szOutS.l0_s]
      exact Evt.t (int_lt hi) (Evt.chk (idx_ok hi) (Evt.bind e1 (Evt.t (by simpa using c) (Evt.self _))))
    · refine Evt.s ?_
      simp only [laws_szOutS.l0_s]
      exact Evt.t (int_lt hi) (Evt.chk (idx_ok hi) (Evt.bind e1 (Evt.f (by simpa using c) ho)))) (fun left => by
    refine Evt.s ?_
    simp only [laws_szOutS.l0_s]
    exact Evt.f int_nlt (Evt.self _)) (l - (x.length : Int)) (by omega) (by omega)
  refine ⟨onw r id id, Evt.f (by rw [e]; simpa using h2) (Evt.thn (r' := id) (g' := id) (by rw [e]; exact hr) (fun _ => rfl) (fun y _ => Evt.self y)), ?_, ?_⟩
  · cases r with
    | inl r => have h5 : r = -1 := hr2; subst h5; show (-1 : Int) ≤ l; omega
    | inr t => have h5 : 0 ≤ t ∧ t ≤ l - (x.length : Int) ∧ _ := hr2; show t ≤ l; omega
  · intro h
    cases r with
    | inl r => have h5 : r = -1 := hr2; subst h5; simp [onw] at h
    | inr t => have h5 : 0 ≤ t ∧ t ≤ l - (x.length : Int) ∧ _ := hr2; exact ⟨by omega, h5.2.2⟩
theorem szTx_ev (x : Tx) (o : okTx x) (l : Int) (h0 : 0 ≤ l) (h1 : l ≤ 1048576) : ∃ t, Evt (fun k => laws_szTx.f k x l) t ∧ t ≤ l ∧ (0 ≤ t → smTx x) := by
  obtain ⟨t0, e0, l0, s0⟩ := szRefS_ev x.fIns o.2.2.1 l (by omega) (by omega)
  by_cases c0 : t0 < 0
  · exact ⟨-1, Evt.bind e0 (Evt.t (by simpa using c0) (Evt.self _)), by omega, fun h => by omega⟩
  obtain ⟨t1, e1, l1, s1⟩ := szOutS_ev x.fOuts o.2.2.2 t0 (by omega) (by omega)
  by_cases c1 : t1 < 0
  · exact ⟨-1, Evt.bind e0 (Evt.f (by simpa using c0) (Evt.bind e1 (Evt.t (by simpa using c1) (Evt.self _)))), by omega, fun h => by omega⟩
  exact ⟨t1, Evt.bind e0 (Evt.f (by simpa using c0) (Evt.bind e1 (Evt.f (by simpa using c1) (Evt.self _)))), by omega, fun _ => ⟨(by repeat' (first | trivial | constructor)), (by repeat' (first | trivial | constructor)), s0 (by omega), s1 (by omega)⟩⟩
theorem toRef_ev (x : Ref) (h : smRef x) : Evt (fun k => laws_toRef.f k x) x := Evt.self _
theorem toInt64S_ev (x : List Int) (h : (Lm tr) x) : Evt (fun k => laws_toInt64S.f k x) x := by
  have hn := h.1
  refine Evt.chk (by simp) (Evt.chk (by simp [leB]; omega) (Evt.bind (a := x) ?_ (Evt.self _)))
  have := Evt.copy (L := fun k acc i => laws_toInt64S.l0 x k acc i) x id (by omega) (fun acc i hl hi r hr => ?_) (fun acc => ?_) (List.replicate ((x.length : Int)).toNat 0) (by simp)
  · simpa using this
  · refine Evt.s ?_
    simp only [laws_toInt64S.l0_s]
    refine Evt.t (int_lt hi) (Evt.chk (idx_ok hi) (Evt.chk (idx_ok (hl ▸ hi)) ?_))
    simpa using hr
  · refine Evt.s ?_
    simp only [laws_toInt64S.l0_s]
    exact Evt.f int_nlt (Evt.self _)
theorem toRule_ev (x : Rule) (h : smRule x) : Evt (fun k => laws_toRule.f k x) x := Evt.bind (toInt64S_ev _ h.1) (Evt.self _)
theorem toOut_ev (x : Out) (h : smOut x) : Evt (fun k => laws_toOut.f k x) x := Evt.bind (toRule_ev _ h.2) (Evt.self _)
theorem toCoin_ev (x : Coin) (h : smCoin x) : Evt (fun k => laws_toCoin.f k x) x := Evt.bind (toRef_ev _ h.1) (Evt.bind (toOut_ev _ h.2.1) (Evt.self _))
theorem toCoinS_ev (x : List Coin) (h : (Lm smCoin) x) : Evt (fun k => laws_toCoinS.f k x) x := by
  have hn := h.1
  refine Evt.chk (by simp) (Evt.chk (by simp [leB]; omega) (Evt.bind (a := x) ?_ (Evt.self _)))
  have := Evt.copy (L := fun k acc i => laws_toCoinS.l0 x k acc i) x id (by omega) (fun acc i hl hi r hr => ?_) (fun acc => ?_) (List.replicate ((x.length : Int)).toNat (⟨(⟨0, 0⟩ : Ref), (⟨0, (⟨[], 0, 0⟩ : Rule)⟩ : Out), 0, false⟩ : Coin)) (by simp)
  · simpa using this
  · refine Evt.s ?_
    simp only [laws_toCoinS.l0_s]
    refine Evt.t (int_lt hi) (Evt.chk (idx_ok hi) (Evt.bind (toCoin_ev _ (h.2 _ (gt_mem hi))) (Evt.chk (idx_ok (hl ▸ hi)) ?_)))
    simpa using hr
  · refine Evt.s ?_
    simp only [laws_toCoinS.l0_s]
    exact Evt.f int_nlt (Evt.self _)
theorem toRefS_ev (x : List Ref) (h : (Lm smRef) x) : Evt (fun k => laws_toRefS.f k x) x := by
  have hn := h.1
  refine Evt.chk (by simp) (Evt.chk (by simp [leB]; omega) (Evt.bind (a := x) ?_ (Evt.self _)))
  have := Evt.copy (L := fun k acc i => laws_toRefS.l0 x k acc i) x id (by omega) (fun acc i hl hi r hr => ?_) (fun acc => ?_) (List.replicate ((x.length : Int)).toNat (⟨0, 0⟩ : Ref)) (by simp)
  · simpa using this
  · refine Evt.s ?_
    simp only [laws_toRefS.l0_s]
    refine Evt.t (int_lt hi) (Evt.chk (idx_ok hi) (Evt.bind (toRef_ev _ (h.2 _ (gt_mem hi))) (Evt.chk (idx_ok (hl ▸ hi)) ?_)))
    simpa using hr
  · refine Evt.s ?_
    simp only [laws_toRefS.l0_s]
    exact Evt.f int_nlt (Evt.self _)
theorem toOutS_ev (x : List Out) (h : (Lm smOut) x) : Evt (fun k => laws_toOutS.f k x) x := by
  have hn := h.1
  refine Evt.chk (by simp) (Evt.chk (by simp [leB]; omega) (Evt.bind (a := x) ?_ (Evt.self _)))
  have := Evt.copy (L := fun k acc i => laws_toOutS.l0 x k acc i) x id (by omega) (fun acc i hl hi r hr => ?_) (fun acc => ?_) (List.replicate ((x.length : Int)).toNat (⟨0, (⟨[], 0, 0⟩ : Rule)⟩ : Out)) (by simp)
  · simpa using this
  · refine Evt.s ?_
    simp only [laws_toOutS.l0_s]
    refine Evt.t (int_lt hi) (Evt.chk (idx_ok hi) (Evt.bind (toOut_ev _ (h.2 _ (gt_mem hi))) (Evt.chk (idx_ok (hl ▸ hi)) ?_)))
    simpa using hr
  · refine Evt.s ?_
    simp only [laws_toOutS.l0_s]
    exact Evt.f int_nlt (Evt.self _)
theorem toTx_ev (x : Tx) (h : smTx x) : Evt (fun k => laws_toTx.f k x) x := Evt.bind (toRefS_ev _ h.2.2.1) (Evt.bind (toOutS_ev _ h.2.2.2) (Evt.self _))
theorem eqRef_ev (x : Ref) (h : smRef x) : Evt (fun k => laws_eqRef.f k x x) true := Evt.f (by simp [sEq_refl]) (Evt.f (by simp [sEq_refl]) (Evt.self _))
theorem eqInt64S_ev (x : List Int) (h : (Lm tr) x) : Evt (fun k => laws_eqInt64S.f k x x) true := by
  have hn := h.1
  refine (Evt.eqr (L := fun k i => laws_eqInt64S.l0 x x k i) (fun _ _ => true) x x (by omega) (fun i h1 h2 o ht hf => ?_) ?_).to (eqRows_refl (fun _ => rfl) x)
  · refine Evt.s ?_
    simp only [laws_eqInt64S.l0_s]
    exact Evt.t (int_lt h1) (Evt.chk (idx_ok h1) (Evt.chk (idx_ok h2) (Evt.f (by simp [sEq_refl]) (ht rfl))))
  · refine Evt.s ?_
    simp only [laws_eqInt64S.l0_s]
    exact Evt.f int_nlt (Evt.self _)
theorem eqRule_ev (x : Rule) (h : smRule x) : Evt (fun k => laws_eqRule.f k x x) true := Evt.bind (eqInt64S_ev _ h.1) (Evt.f rfl (Evt.f (by simp [sEq_refl]) (Evt.f (by simp [sEq_refl]) (Evt.self _))))
theorem eqOut_ev (x : Out) (h : smOut x) : Evt (fun k => laws_eqOut.f k x x) true := Evt.f (by simp [sEq_refl]) (Evt.bind (eqRule_ev _ h.2) (Evt.f rfl (Evt.self _)))
theorem eqCoin_ev (x : Coin) (h : smCoin x) : Evt (fun k => laws_eqCoin.f k x x) true := Evt.bind (eqRef_ev _ h.1) (Evt.f rfl (Evt.bind (eqOut_ev _ h.2.1) (Evt.f rfl (Evt.f (by simp [sEq_refl]) (Evt.f (by simp [sEq_refl]) (Evt.self _))))))
theorem eqCoinS_ev (x : List Coin) (h : (Lm smCoin) x) : Evt (fun k => laws_eqCoinS.f k x x) true := by
  have hn := h.1
  refine (Evt.eqr (L := fun k i => laws_eqCoinS.l0 x x k i) (fun _ _ => true) x x (by omega) (fun i h1 h2 o ht hf => ?_) ?_).to (eqRows_refl (fun _ => rfl) x)
  · refine Evt.s ?_
    simp only [laws_eqCoinS.l0_s]
    exact Evt.t (int_lt h1) (Evt.chk (idx_ok h1) (Evt.chk (idx_ok h2) (Evt.bind (eqCoin_ev _ (h.2 _ (gt_mem h1))) (Evt.f rfl (ht rfl)))))
  · refine Evt.s ?_
    simp only [laws_eqCoinS.l0_s]
    exact Evt.f int_nlt (Evt.self _)
theorem eqCoinsResult_ev (x : CoinsResult) (h : smCoinsResult x) : Evt (fun k => laws_eqCoinsResult.f k x x) true := Evt.f (by simp [sEq_refl]) (Evt.bind (eqCoinS_ev _ h.2) (Evt.f rfl (Evt.self _)))
theorem eqRefS_ev (x : List Ref) (h : (Lm smRef) x) : Evt (fun k => laws_eqRefS.f k x x) true := by
  have hn := h.1
  refine (Evt.eqr (L := fun k i => laws_eqRefS.l0 x x k i) (fun _ _ => true) x x (by omega) (fun i h1 h2 o ht hf => ?_) ?_).to (eqRows_refl (fun _ => rfl) x)
  · refine Evt.s ?_
    simp only [laws_eqRefS.l0_s]
    exact Evt.t (int_lt h1) (Evt.chk (idx_ok h1) (Evt.chk (idx_ok h2) (Evt.bind (eqRef_ev _ (h.2 _ (gt_mem h1))) (Evt.f rfl (ht rfl)))))
  · refine Evt.s ?_
    simp only [laws_eqRefS.l0_s]
    exact Evt.f int_nlt (Evt.self _)
theorem eqOutS_ev (x : List Out) (h : (Lm smOut) x) : Evt (fun k => laws_eqOutS.f k x x) true := by
  have hn := h.1
  refine (Evt.eqr (L := fun k i => laws_eqOutS.l0 x x k i) (fun _ _ => true) x x (by omega) (fun i h1 h2 o ht hf => ?_) ?_).to (eqRows_refl (fun _ => rfl) x)
  · refine Evt.s ?_
    simp only [laws_eqOutS.l0_s]
    exact Evt.t (int_lt h1) (Evt.chk (idx_ok h1) (Evt.chk (idx_ok h2) (Evt.bind (eqOut_ev _ (h.2 _ (gt_mem h1))) (Evt.f rfl (ht rfl)))))
  · refine Evt.s ?_
    simp only [laws_eqOutS.l0_s]
    exact Evt.f int_nlt (Evt.self _)
theorem eqTx_ev (x : Tx) (h : smTx x) : Evt (fun k => laws_eqTx.f k x x) true := Evt.f (by simp [sEq_refl]) (Evt.f (by simp [sEq_refl]) (Evt.bind (eqRefS_ev _ h.2.2.1) (Evt.f rfl (Evt.bind (eqOutS_ev _ h.2.2.2) (Evt.f rfl (Evt.self _))))))
theorem markInt64S_mh (x : List Int) (h : (Lm tr) x) (s : Int) (h1 : 1 ≤ s) (h2 : s + 1048576 ≤ 4611686018427387904) : ∃ y t, s ≤ t ∧ t ≤ s + 1048576 ∧ Evt (fun k => laws_markInt64S.f k x s) (t, y) ∧ Evt (fun k => laws_heldInt64S.f k y s) t := by
  have hn := h.1
  have hc : (x.length : Int) * 1 ≤ 1048576 := by omega
  obtain ⟨ys, t, a1, a2, a3, a4, a5⟩ := mark_held (fun k a s i => laws_markInt64S.l0 k a s i) (fun a k s i => laws_heldInt64S.l0 a k s i) True 1 (by omega) tr (fun acc s i hi hp h1 h2 => by
    have w0 : wrap64 (s + 1) = s + 1 := wrap64_in _ (by omega)
    refine ⟨s, (s + 1), by omega, by omega, fun r hr => ?_, fun hB ys hi hy r hr => ?_⟩
    · simp only [laws_markInt64S.l0_s, int_lt hi, cond_true, idx_ok hi, chkT, Int.toNat_natCast, List.length_set, gt_set hi, List.set_set, w0]
      exact hr
    · simp only [laws_heldInt64S.l0_s, int_lt hi, cond_true, idx_ok hi, chkT, hy, bne_self_eq_false, cond_false, w0]
      exact hr) (fun acc s => by
    simp only [laws_markInt64S.l0_s]
    exact Evt.f int_nlt (Evt.self _)) (fun _ ys s => by
    simp only [laws_heldInt64S.l0_s]
    exact Evt.f int_nlt (Evt.self _)) x (by omega) h.2 s h1 (by omega)
  exact ⟨ys, t, a2, by omega, Evt.bind a4 (Evt.self _), Evt.bind (a5 trivial) (Evt.self _)⟩
theorem markCoinS_mh (x : List Coin) (h : (Lm smCoin) x) (s : Int) (h1 : 1 ≤ s) (h2 : s + 1099518967808 ≤ 4611686018427387904) : ∃ y t, s ≤ t ∧ t ≤ s + 1099518967808 ∧ Evt (fun k => laws_markCoinS.f k x s) (t, y) ∧ Evt (fun k => laws_heldCoinS.f k y s) t := by
  have hn := h.1
  have hc : (x.length : Int) * 1048583 ≤ 1099518967808 := by omega
  obtain ⟨ys, t, a1, a2, a3, a4, a5⟩ := mark_held (fun k a s i => laws_markCoinS.l0 k a s i) (fun a k s i => laws_heldCoinS.l0 a k s i) True 1048583 (by omega) smCoin (fun acc s i hi hp h1 h2 => by
    have w0 : wrap64 (s + 1) = s + 1 := wrap64_in _ (by omega)
    have w1 : wrap64 (s + 1 + 1) = s + 1 + 1 := wrap64_in _ (by omega)
    have w2 : wrap64 (s + 1 + 1 + 1) = s + 1 + 1 + 1 := wrap64_in _ (by omega)
    obtain ⟨y3, t3, l3, u3, e3, g3⟩ := markInt64S_mh (gt acc (i : Int)).fOut.fRule.fKeys hp.2.1.2.1 (s + 1 + 1 + 1) (by omega) (by omega)
    have n3 : decide (t3 < 0) = false := by simp; omega
    have w4 : wrap64 (t3 + 1) = t3 + 1 := wrap64_in _ (by omega)
    have w5 : wrap64 (t3 + 1 + 1) = t3 + 1 + 1 := wrap64_in _ (by omega)
    have w6 : wrap64 (t3 + 1 + 1 + 1) = t3 + 1 + 1 + 1 := wrap64_in _ (by omega)
    have w7 : wrap64 (t3 + 1 + 1 + 1 + 1) = t3 + 1 + 1 + 1 + 1 := wrap64_in _ (by omega)
    have h3 : ((3 : Int) != 0) = true := by decide
    refine ⟨⟨⟨s, s + 1⟩, ⟨s + 1 + 1, ⟨y3, t3, t3 + 1⟩⟩, t3 + 1 + 1, (Int.tmod (t3 + 1 + 1 + 1) 3 == 0)⟩, t3 + 1 + 1 + 1 + 1, by omega, by omega, fun r hr => ?_, fun hB ys hi hy r hr => ?_⟩
    · simp only [laws_markCoinS.l0_s, int_lt hi, cond_true, cond_false, idx_ok hi, chkT, Int.toNat_natCast, h3, w0, w1, w2, w4, w5, w6, w7]
      refine Evt.bind e3 ?_
      try simp only [int_lt hi, cond_true, cond_false, idx_ok hi, chkT, Int.toNat_natCast, h3, w0, w1, w2, w4, w5, w6, w7]
      exact hr
    · simp only [laws_heldCoinS.l0_s, hy, bne_self_eq_false, int_lt hi, cond_true, cond_false, idx_ok hi, chkT, Int.toNat_natCast, h3, w0, w1, w2, w4, w5, w6, w7]
      refine Evt.bind g3 ?_
      try simp only [hy, bne_self_eq_false, n3, int_lt hi, cond_true, cond_false, idx_ok hi, chkT, Int.toNat_natCast, h3, w0, w1, w2, w4, w5, w6, w7]
      exact hr) (fun acc s => by
    simp only [laws_markCoinS.l0_s]
    exact Evt.f int_nlt (Evt.self _)) (fun _ ys s => by
    simp only [laws_heldCoinS.l0_s]
    exact Evt.f int_nlt (Evt.self _)) x (by omega) h.2 s h1 (by omega)
  exact ⟨ys, t, a2, by omega, Evt.bind a4 (Evt.self _), Evt.bind (a5 trivial) (Evt.self _)⟩
theorem markRefS_mh (x : List Ref) (h : (Lm smRef) x) (s : Int) (h1 : 1 ≤ s) (h2 : s + 2097152 ≤ 4611686018427387904) : ∃ y t, s ≤ t ∧ t ≤ s + 2097152 ∧ Evt (fun k => laws_markRefS.f k x s) (t, y) := by
  have hn := h.1
  have hc : (x.length : Int) * 2 ≤ 2097152 := by omega
  obtain ⟨ys, t, a1, a2, a3, a4, a5⟩ := mark_held (fun k a s i => laws_markRefS.l0 k a s i) (fun a k s i => none) False 2 (by omega) smRef (fun acc s i hi hp h1 h2 => by
    have w0 : wrap64 (s + 1) = s + 1 := wrap64_in _ (by omega)
    have w1 : wrap64 ((s + 1) + 1) = (s + 1) + 1 := wrap64_in _ (by omega)
    refine ⟨⟨s, (s + 1)⟩, ((s + 1) + 1), by omega, by omega, fun r hr => ?_, fun hB ys hi hy r hr => ?_⟩
    · simp only [laws_markRefS.l0_s, int_lt hi, cond_true, idx_ok hi, chkT, Int.toNat_natCast, List.length_set, gt_set hi, List.set_set, w0, w1]
      exact hr
    · exact hB.elim) (fun acc s => by
    simp only [laws_markRefS.l0_s]
    exact Evt.f int_nlt (Evt.self _)) (fun h => h.elim) x (by omega) h.2 s h1 (by omega)
  exact ⟨ys, t, a2, by omega, Evt.bind a4 (Evt.self _)⟩
theorem markOutS_mh (x : List Out) (h : (Lm smOut) x) (s : Int) (h1 : 1 ≤ s) (h2 : s + 1099514773504 ≤ 4611686018427387904) : ∃ y t, s ≤ t ∧ t ≤ s + 1099514773504 ∧ Evt (fun k => laws_markOutS.f k x s) (t, y) := by
  have hn := h.1
  have hc : (x.length : Int) * 1048579 ≤ 1099514773504 := by omega
  obtain ⟨ys, t, a1, a2, a3, a4, a5⟩ := mark_held (fun k a s i => laws_markOutS.l0 k a s i) (fun a k s i => none) False 1048579 (by omega) smOut (fun acc s i hi hp h1 h2 => by
    have w0 : wrap64 (s + 1) = s + 1 := wrap64_in _ (by omega)
    obtain ⟨y1, t1, l1, u1, e1, g1⟩ := markInt64S_mh (gt acc (i : Int)).fRule.fKeys hp.2.1 (s + 1) (by omega) (by omega)
    have n1 : decide (t1 < 0) = false := by simp; omega
    have w2 : wrap64 (t1 + 1) = t1 + 1 := wrap64_in _ (by omega)
    have w3 : wrap64 (t1 + 1 + 1) = t1 + 1 + 1 := wrap64_in _ (by omega)
    have h3 : ((3 : Int) != 0) = true := by decide
    refine ⟨⟨s, ⟨y1, t1, t1 + 1⟩⟩, t1 + 1 + 1, by omega, by omega, fun r hr => ?_, fun hB ys hi hy r hr => ?_⟩
    · simp only [laws_markOutS.l0_s, int_lt hi, cond_true, cond_false, idx_ok hi, chkT, Int.toNat_natCast, h3, w0, w2, w3]
      refine Evt.bind e1 ?_
      try simp only [int_lt hi, cond_true, cond_false, idx_ok hi, chkT, Int.toNat_natCast, h3, w0, w2, w3]
      exact hr
    · exact hB.elim) (fun acc s => by
    simp only [laws_markOutS.l0_s]
    exact Evt.f int_nlt (Evt.self _)) (fun h => h.elim) x (by omega) h.2 s h1 (by omega)
  exact ⟨ys, t, a2, by omega, Evt.bind a4 (Evt.self _)⟩
theorem markTx_mh (x : Tx) (h : smTx x) (s : Int) (h1 : 1 ≤ s) (h2 : s + 1099516870658 ≤ 4611686018427387904) : ∃ y0_0 y1_0 t, s ≤ t ∧ t ≤ s + 1099516870658 ∧ Evt (fun k => laws_markTx.f k x s) (t, y0_0, y1_0) := by
  obtain ⟨y0_0, t0, l0, u0, e0⟩ := markRefS_mh x.fIns h.2.2.1 s (by omega) (by omega)
  obtain ⟨y1_0, t1, l1, u1, e1⟩ := markOutS_mh x.fOuts h.2.2.2 t0 (by omega) (by omega)
  exact ⟨y0_0, y1_0, t1, by omega, by omega, (Evt.bind e0 (Evt.bind e1 (Evt.self _)))⟩
theorem markCoinsResult_mh (x : CoinsResult) (h : smCoinsResult x) (s : Int) (h1 : 1 ≤ s) (h2 : s + 1099518967809 ≤ 4611686018427387904) : ∃ y0_0 t, s ≤ t ∧ t ≤ s + 1099518967809 ∧ Evt (fun k => laws_markCoinsResult.f k x s) (t, y0_0) ∧ Evt (fun k => laws_heldCoinsResult.f k (⟨x.fCode, y0_0⟩ : CoinsResult) s) t := by
  obtain ⟨y0_0, t0, l0, u0, e0, g0⟩ := markCoinS_mh x.fCoins h.2 s (by omega) (by omega)
  exact ⟨y0_0, t0, by omega, by omega, (Evt.bind e0 (Evt.self _)), (Evt.bind g0 (Evt.f (by simp; omega) (Evt.self _)))⟩
theorem findCoin_rise (x0 : List Coin) (x1 : Ref) (rise : ∀ a b : Nat, a < b → b < x0.length → lexL (gt x0 (a : Int)).fRef (gt x0 (b : Int)).fRef) : spec_l4At_v x0 x1 = bif (impl_findCoin_v x0 x1).2 then (impl_findCoin_v x0 x1).1 else -1 := by
  have hc0 : ∀ i : Nat, impl_findCoin_1_v (gt x0 (i : Int)) x1 = 0 ↔ (gt x0 (i : Int)).fRef.fTx = x1.fTx ∧ (gt x0 (i : Int)).fRef.fAt = x1.fAt := fun i => compareRefs_zero _ _
  have hcl : ∀ i : Nat, impl_findCoin_1_v (gt x0 (i : Int)) x1 < 0 ↔ lexL (gt x0 (i : Int)).fRef x1 := fun i => compareRefs_lt _ _
  have key := bs_find x0.length (fun i => impl_findCoin_1_v (gt x0 (i : Int)) x1) (fun a b hab hb hlt => by
    rw [hcl] at hlt ⊢
    rcases Nat.lt_or_eq_of_le hab with h1 | h1
    · exact lex_trans (rise a b h1 hb) hlt
    · subst h1; exact hlt) (fun a b hab hb h0 => by
    rw [hc0] at h0
    rw [hcl]
    have := rise a b hab hb
    unfold lexL at *; omega) default
  have e : (fun i : Nat => bif (((gt x0 (i : Int)).fRef.fTx == x1.fTx) && ((gt x0 (i : Int)).fRef.fAt == x1.fAt)) then some (i : Int) else none) = fun i : Nat => bif impl_findCoin_1_v (gt x0 (i : Int)) x1 == 0 then some (i : Int) else none := by
    funext i
    have : (((gt x0 (i : Int)).fRef.fTx == x1.fTx) && ((gt x0 (i : Int)).fRef.fAt == x1.fAt)) = (impl_findCoin_1_v (gt x0 (i : Int)) x1 == 0) := by
      rw [Bool.eq_iff_iff, Bool.and_eq_true, beq_iff_eq, beq_iff_eq, beq_iff_eq]; exact (hc0 i).symm
    rw [this]
  show onO ((List.range' 0 (x0.length - 0)).findSome? (fun i : Nat => bif (((gt x0 (i : Int)).fRef.fTx == x1.fTx) && ((gt x0 (i : Int)).fRef.fAt == x1.fAt)) then some (i : Int) else none)) (fun r => r) (-1) = _
  rw [e, key]
  show onO (bif (impl_findCoin_v x0 x1).2 then some (impl_findCoin_v x0 x1).1 else none) _ _ = _
  cases (impl_findCoin_v x0 x1).2 <;> rfl
theorem sameRules_eq (a b : Rule) : impl_SameRules_v a b = spec_l2Same_v a b := by
  have e : slices_Equal_int64_v a.fKeys b.fKeys = spec_l2Ints_v a.fKeys b.fKeys := rfl
  simp only [impl_SameRules_v, spec_l2Same_v, e]
  generalize spec_l2Ints_v a.fKeys b.fKeys = q
  cases (a.fNeed == b.fNeed) <;> cases (a.fAfter == b.fAfter) <;> cases q <;> rfl
theorem spent_filter (x0 : List Coin) (ins : List Ref) : (List.range' 0 (x0.length - 0)).foldl (fun ac1 (i0 : Nat) => (bif (spec_l3Among_v ins ((gt x0 (i0 : Int)).fRef)) then ((ac1 ++ ([(gt x0 (i0 : Int))] : List Coin))) else (ac1))) ([] : List Coin) = x0.filter (fun c => spec_l3Among_v ins c.fRef) := by
  have h := range_foldl x0 (fun ac (c : Coin) => bif spec_l3Among_v ins c.fRef then ac ++ [c] else ac) []
  refine Eq.trans h ?_
  have key : ∀ (xs ac : List Coin), xs.foldl (fun ac (c : Coin) => bif spec_l3Among_v ins c.fRef then ac ++ [c] else ac) ac = ac ++ xs.filter (fun c => spec_l3Among_v ins c.fRef) := by
    intro xs
    induction xs with
    | nil => intro ac; simp
    | cons a xs ih =>
      intro ac
      rw [List.foldl_cons, ih, List.filter_cons]
      cases spec_l3Among_v ins a.fRef <;> simp
  rw [key]; simp
def spentOf (x0 : List Coin) (ins : List Ref) : List Coin := x0.filter (fun c => spec_l3Among_v ins c.fRef)
theorem l5Spent_is (x0 : List Coin) (x1 : Tx) : spec_l5Spent_v x0 x1 = (spentOf x0 x1.fIns, ((spentOf x0 x1.fIns).length : Int) == (x1.fIns.length : Int)) := by
  unfold spec_l5Spent_v
  rw [spent_filter, l4Copy_id]; rfl
theorem made_far : ∀ (L : List Coin) (a : Int), L ≠ [] → (L.Pairwise fun x y => x.fRef.fAt < y.fRef.fAt) → (∀ c ∈ L, a ≤ c.fRef.fAt) → ∃ c ∈ L, a + (L.length : Int) - 1 ≤ c.fRef.fAt
  | [], a, h, _, _ => absurd rfl h
  | [c], a, _, _, hl => ⟨c, by simp, by have := hl c (by simp); simp; omega⟩
  | c :: d :: r, a, _, hp, hl => by
    rw [List.pairwise_cons] at hp
    have h1 := hl c (by simp)
    obtain ⟨e, he, h2⟩ := made_far (d :: r) (a + 1) (by simp) hp.2 (fun x hx => by have := hp.1 x hx; omega)
    exact ⟨e, by simp [he], by simp only [List.length_cons] at h2 ⊢; omega⟩
theorem madeFrom_eq (x1 : Tx) : ∀ (L : List Coin) (i : Nat), (L.Pairwise fun x y => x.fRef.fAt < y.fRef.fAt) → (∀ c ∈ L, (i : Int) ≤ c.fRef.fAt) → i + L.length = x1.fOuts.length → madeFrom x1.fOuts i L = !(L.any (madeBad x1))
  | [], i, _, _, _ => rfl
  | c :: r, i, hp, hl, hn => by
    have hp0 := hp
    rw [List.pairwise_cons] at hp
    have h1 := hl c (by simp)
    have hn' : i + (r.length + 1) = x1.fOuts.length := hn
    by_cases he : c.fRef.fAt = (i : Int)
    · have ih := madeFrom_eq x1 r (i + 1) hp.2 (fun x hx => by have := hp.1 x hx; omega) (by omega)
      have hb : madeBad x1 c = !(impl_sameOuts_v c.fOut (gt x1.fOuts (i : Int))) := by
        unfold madeBad impl_sameOuts_v
        rw [he, sameRules_eq]
        have h3 : decide ((x1.fOuts.length : Int) ≤ (i : Int)) = false := by simp; omega
        rw [h3, Bool.false_or]
        simp only [bne]
        cases c.fOut.fValue == (gt x1.fOuts (i : Int)).fValue
        · rfl
        · rfl
      unfold madeFrom
      have h4 : (c.fRef.fAt != (i : Int)) = false := by simp [he]
      rw [h4, Bool.false_or, List.any_cons, ← hb, ih]
      cases madeBad x1 c <;> rfl
    · obtain ⟨e, he2, h5⟩ := made_far (c :: r) ((i : Int) + 1) (by simp) hp0 (fun x hx => by
        rcases List.mem_cons.1 hx with rfl | hx
        · omega
        · have := hp.1 x hx; omega)
      have h6 : madeBad x1 e = true := by
        unfold madeBad
        have : decide ((x1.fOuts.length : Int) ≤ e.fRef.fAt) = true := by
          rw [decide_eq_true_eq]
          simp only [List.length_cons] at h5; omega
        rw [this]; rfl
      have h7 : (c :: r).any (madeBad x1) = true := List.any_eq_true.2 ⟨e, he2, h6⟩
      rw [h7]
      unfold madeFrom
      have h4 : (c.fRef.fAt != (i : Int)) = true := by simpa using he
      rw [h4]; rfl
theorem areMade_same (x0 : List Coin) (x1 : Tx) (x2 : Int) (hr : Rise x0) (hA : ∀ c ∈ x0, 0 ≤ c.fRef.fAt) : impl_areMade_v x0 x2 x1.fOuts = spec_l5Made_v x0 x1 x2 := by
  have hp : (ofId x0 x2).Pairwise fun x y => x.fRef.fAt < y.fRef.fAt := by
    have h1 : (ofId x0 x2).Pairwise fun a b => lexL a.fRef b.fRef := hr.2.sublist List.filter_sublist
    refine h1.imp_of_mem fun {a b} ha hb hab => ?_
    have e1 : a.fRef.fTx = x2 := by simpa using (List.mem_filter.1 ha).2
    have e2 : b.fRef.fTx = x2 := by simpa using (List.mem_filter.1 hb).2
    unfold lexL at hab; omega
  unfold impl_areMade_v spec_l5Made_v
  cases hc : ((ofId x0 x2).length : Int) != (x1.fOuts.length : Int)
  · have hl := len_eq hc
    have e : (((ofId x0 x2).length : Int) == (x1.fOuts.length : Int)) = true := by rw [hl]; simp
    rw [e, cond_false, madeFrom_eq x1 _ 0 hp (fun c hc => by have := hA c (List.mem_filter.1 hc).1; omega) (by omega)]
    cases (ofId x0 x2).any (madeBad x1) <;> rfl
  · have e : (((ofId x0 x2).length : Int) == (x1.fOuts.length : Int)) = false := by simpa [bne] using hc
    rw [e, cond_true]
    cases (ofId x0 x2).any (madeBad x1) <;> rfl
theorem areOf_same (x3 : List Coin) (x1 : Tx) : (!(impl_areOf_v x3 x1.fIns)) = ((!(spec_l5Spent_v x3 x1).2) || (((spec_l5Spent_v x3 x1).1.length : Int) != (x3.length : Int))) := by
  rw [areOf_eq, l5Spent_is]
  simp only []
  have h1 : (spentOf x3 x1.fIns).length ≤ x3.length := List.length_filter_le _ _
  cases ha : x3.all (fun c => spec_l3Among_v x1.fIns c.fRef)
  · have h2 : (spentOf x3 x1.fIns).length ≠ x3.length := fun e => by
      have h3 := List.length_filter_eq_length_iff.1 e
      have h4 : x3.all (fun c => spec_l3Among_v x1.fIns c.fRef) = true := List.all_eq_true.2 h3
      rw [ha] at h4; cases h4
    have h5 : (((spentOf x3 x1.fIns).length : Int) != (x3.length : Int)) = true := by simp; omega
    rw [h5]; simp
  · have h2 : spentOf x3 x1.fIns = x3 := List.filter_eq_self.2 (List.all_eq_true.1 ha)
    rw [h2]
    simp [bne]
theorem found_same (x0 : List Coin) (ins : List Ref) (hr : Rise x0) : ins.any (fun r => (impl_findCoin_v x0 r).2) = ins.any (fun r => decide (0 ≤ spec_l4At_v x0 r)) := by
  have e : (fun r => (impl_findCoin_v x0 r).2) = fun r => decide (0 ≤ spec_l4At_v x0 r) := by
    funext r
    rw [findCoin_rise x0 r hr.lt]
    have hin := findCoin_in x0 r
    generalize impl_findCoin_v x0 r = q at hin ⊢
    cases hq : q.2
    · rfl
    · have h3 := idx_lo (hin (by rw [hq]; rfl))
      rw [cond_true]
      exact (decide_eq_true h3).symm
  rw [e]
theorem undo_shape (c1 c2 c3 c4 c5 : Bool) (S : List Coin) : (⟨(bif c1 then (([] : List Coin), (3 : Int)) else bif c2 then ([], 1) else bif c3 then ([], 4) else bif c4 then ([], 7) else bif c5 then ([], 2) else (S, 0)).2, (bif c1 then (([] : List Coin), (3 : Int)) else bif c2 then ([], 1) else bif c3 then ([], 4) else bif c4 then ([], 7) else bif c5 then ([], 2) else (S, 0)).1⟩ : CoinsResult)
    = bif c1 then ⟨3, []⟩ else bif c2 then ⟨1, []⟩ else bif c3 then ⟨4, []⟩ else bif c4 then ⟨7, []⟩ else bif c5 then ⟨2, []⟩ else ⟨0, S⟩ := by
  cases c1 <;> cases c2 <;> cases c3 <;> cases c4 <;> cases c5 <;> rfl
theorem undoTx_same (x0 : List Coin) (x1 : Tx) (x2 : Int) (x3 : List Coin) (h0 : Lm smCoin x0) : impl_UndoTx_v x0 x1 x2 x3 = spec_UndoTx_v x0 x1 x2 x3 := by
  unfold impl_UndoTx_v spec_UndoTx_v
  rw [coinsFault_same, coinsFault_same, txFault_same]
  cases hf : (spec_l4Fault_v x0) != 0
  · have f0 : spec_l4Fault_v x0 = 0 := by simpa using hf
    have hr := rise_of h0 f0
    unfold impl_undoTx_v
    rw [undo_shape, areMade_same x0 x1 x2 hr (fault_at f0), areOf_same, found_same x0 x1.fIns hr]
    have e : impl_isId_v x2 = spec_l1In_v x2 1 60 := rfl
    rw [e]
  · simp only [cond_true]
theorem undoTx_smr (x0 : List Coin) (x1 : Tx) (x2 : Int) (x3 : List Coin) (h0 : Lm smCoin x0) (h3 : Lm smCoin x3) : smCoinsResult (spec_UndoTx_v x0 x1 x2 x3) := by
  have hl : ∀ (a : Int), smCoinsResult ⟨a, ([] : List Coin)⟩ := fun a => ⟨trivial, by simp, fun x hx => by cases hx⟩
  unfold spec_UndoTx_v
  cases hf : (spec_l4Fault_v x0) != 0
  · cases hg : (spec_l4Fault_v x3) != 0
    · have f0 : spec_l4Fault_v x0 = 0 := by simpa using hf
      have f3 : spec_l4Fault_v x3 = 0 := by simpa using hg
      have l0 := fault_len f0
      have l3 := fault_len f3
      have hs : smCoinsResult ⟨0, spec_l5Back_v x0 x2 x3⟩ := ⟨trivial, back_sm x0 x2 x3 h0 h3 (by omega)⟩
      simp only [cond_false]
      repeat' (first | exact hl _ | exact hs | (rw [cond_eq_ite]; split))
    · exact hl _
  · exact hl _
theorem same_FnExactUndoTx (x0 : List Coin) (h0 : Lm smCoin x0) (o0 : Lok okCoin x0) (x1 : Tx) (h1 : smTx x1) (o1 : okTx x1) (x2 : Int) (o2 : iOk .i64 x2) (x3 : List Coin) (h3 : Lm smCoin x3) (o3 : Lok okCoin x3) : impl_UndoTx_v x0 x1 x2 x3 = spec_UndoTx_v x0 x1 x2 x3 := undoTx_same x0 x1 x2 x3 h0
theorem smr_FnExactUndoTx (x0 : List Coin) (h0 : Lm smCoin x0) (o0 : Lok okCoin x0) (x1 : Tx) (h1 : smTx x1) (o1 : okTx x1) (x2 : Int) (o2 : iOk .i64 x2) (x3 : List Coin) (h3 : Lm smCoin x3) (o3 : Lok okCoin x3) : smCoinsResult (spec_UndoTx_v x0 x1 x2 x3) := undoTx_smr x0 x1 x2 x3 h0 h3
end Go.Proofs.YtecgbhfgkkpmhabGreat.Zk
namespace Go.Proofs.YtecgbhfgkkpmhabGreat.Pure
open Go Go.Proofs.YtecgbhfgkkpmhabGreat.Zk
theorem FnExactUndoTx (x0 : List Zk.Coin) (x1 : Zk.Tx) (x2 : Int) (x3 : List Zk.Coin) (o_x0 : (Lok okCoin) x0) (o_x1 : okTx x1) (o_x2 : (iOk .i64) x2) (o_x3 : (Lok okCoin) x3) : ∃ k, laws_FnExactUndoTx.f k x0 x1 x2 x3 = some true := by
  refine Evt.get ?_
  obtain ⟨t0, e0, l0, s0⟩ := szCoinS_ev x0 o_x0 1048576 (by omega) (by omega)
  by_cases c0 : t0 < 0
  · exact Evt.bind e0 (Evt.t (by simpa using c0) (Evt.self _))
  refine Evt.bind e0 (Evt.f (by simpa using c0) ?_)
  have m0 := s0 (by omega)
  obtain ⟨t1, e1, l1, s1⟩ := szTx_ev x1 o_x1 t0 (by omega) (by omega)
  by_cases c1 : t1 < 0
  · exact Evt.bind e1 (Evt.t (by simpa using c1) (Evt.self _))
  refine Evt.bind e1 (Evt.f (by simpa using c1) ?_)
  have m1 := s1 (by omega)
  obtain ⟨t2, e2, l2, s2⟩ := szCoinS_ev x3 o_x3 t1 (by omega) (by omega)
  by_cases c2 : t2 < 0
  · exact Evt.bind e2 (Evt.t (by simpa using c2) (Evt.self _))
  refine Evt.bind e2 (Evt.f (by simpa using c2) ?_)
  have m2 := s2 (by omega)
  refine Evt.bind (toCoinS_ev x0 (m0)) ?_
  refine Evt.bind (toTx_ev x1 (m1)) ?_
  refine Evt.bind (toCoinS_ev x3 (m2)) ?_
  refine Evt.bind (spec_UndoTx_ev x0 x1 x2 x3 (m0) (m1) (m2)) ?_
  refine Evt.bind (toCoinS_ev x0 (m0)) ?_
  refine Evt.bind (toTx_ev x1 (m1)) ?_
  refine Evt.bind (toCoinS_ev x3 (m2)) ?_
  refine Evt.bind ((impl_UndoTx_ev x0 x1 x2 x3 (m0) (m1) (m2)).to (same_FnExactUndoTx x0 (m0) o_x0 x1 (m1) o_x1 x2 o_x2 x3 (m2) o_x3)) ?_
  refine Evt.bind (eqCoinsResult_ev _ (smr_FnExactUndoTx x0 (m0) o_x0 x1 (m1) o_x1 x2 o_x2 x3 (m2) o_x3)) (Evt.f rfl ?_)
  refine Evt.bind (toCoinS_ev x0 (m0)) ?_
  refine Evt.bind (eqCoinS_ev _ (m0)) (Evt.f rfl ?_)
  refine Evt.bind (toTx_ev x1 (m1)) ?_
  refine Evt.bind (eqTx_ev _ (m1)) (Evt.f rfl ?_)
  refine Evt.bind (toCoinS_ev x3 (m2)) ?_
  refine Evt.bind (eqCoinS_ev _ (m2)) (Evt.f rfl ?_)
  obtain ⟨y3_0, t3, l3, u3, e3, g3⟩ := markCoinS_mh x0 m0 1 (by omega) (by omega)
  refine Evt.bind e3 ?_
  dsimp only
  obtain ⟨y4_0, y4_1, t4, l4, u4, e4⟩ := markTx_mh x1 m1 (t3, y3_0).1 (by omega) (by omega)
  refine Evt.bind e4 ?_
  dsimp only
  obtain ⟨y5_0, t5, l5, u5, e5, g5⟩ := markCoinS_mh x3 m2 (t4, y4_0, y4_1).1 (by omega) (by omega)
  refine Evt.bind e5 ?_
  dsimp only
  refine Evt.bind (Evt.t (by simp; omega) (eqCoinsResult_ev _ (smr_FnExactUndoTx x0 (m0) o_x0 x1 (m1) o_x1 x2 o_x2 x3 (m2) o_x3))) (Evt.f (by simp; omega) ?_)
  obtain ⟨y6_0, t6, l6, u6, e6, g6⟩ := markCoinsResult_mh (spec_UndoTx_v x0 x1 x2 x3) (smr_FnExactUndoTx x0 (m0) o_x0 x1 (m1) o_x1 x2 o_x2 x3 (m2) o_x3) 1 (by omega) (by omega)
  refine Evt.bind e6 ?_
  dsimp only
  refine Evt.bind g6 ?_
  refine Evt.f (by simp; try omega) ?_
  refine Evt.f (by simp; try omega) ?_
  refine Evt.bind (toCoinS_ev x0 (m0)) ?_
  refine Evt.bind (toTx_ev x1 (m1)) ?_
  refine Evt.bind (toCoinS_ev x3 (m2)) ?_
  refine Evt.bind ((impl_UndoTx_ev x0 x1 x2 x3 (m0) (m1) (m2)).to (same_FnExactUndoTx x0 (m0) o_x0 x1 (m1) o_x1 x2 o_x2 x3 (m2) o_x3)) ?_
  refine Evt.bind (eqCoinsResult_ev _ (smr_FnExactUndoTx x0 (m0) o_x0 x1 (m1) o_x1 x2 o_x2 x3 (m2) o_x3)) (Evt.f rfl ?_)
  refine Evt.bind g6 ?_
  refine Evt.f (by simp; try omega) ?_
  refine Evt.f (by simp; try omega) ?_
  exact Evt.self _
end Go.Proofs.YtecgbhfgkkpmhabGreat.Pure
