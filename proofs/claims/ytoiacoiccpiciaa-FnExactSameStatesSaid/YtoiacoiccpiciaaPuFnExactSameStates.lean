/- The plain law of FnExactSameStates: what the program's function and the reference's compute is the same. No condition. -/
import Derived.Test.YtoiacoiccpiciaaZkPure
import Derived.Test.YtoiacoiccpiciaaSameStatesZkOpn
import Derived.Test.YtoiacoiccpiciaaSameStatesZkF4
namespace Go.Proofs.Ytoiacoiccpiciaa.Zk
open Go Go.RowKit Go.IntWalk
set_option linter.unusedVariables false
set_option linter.unusedSimpArgs false

def szL (n : Nat) (l : Int) : Int := bif decide (wrap64 (l - n) < 0) then -1 else wrap64 (l - n)
theorem szL_ok {n : Nat} {l : Int} (h : decide (szL n l < 0) = false) (h0 : 0 ≤ l) (h1 : l ≤ 1048576) (hn : n ≤ maxLen) : (n : Int) ≤ l ∧ szL n l = l - n := by
  unfold szL at *
  have hn' : n ≤ 9223372036854775807 := by simpa [maxLen] using hn
  have e : wrap64 (l - n) = l - n := by unfold wrap64; omega
  rw [e] at h ⊢
  by_cases hc : l - (n : Int) < 0
  · rw [decide_eq_true hc] at h; cases h
  · rw [decide_eq_false hc]; exact ⟨by omega, rfl⟩
theorem szL_le {n : Nat} {l : Int} (h0 : 0 ≤ l) (h1 : l ≤ 1048576) (hn : n ≤ maxLen) : szL n l ≤ l := by
  unfold szL
  have hn' : n ≤ 9223372036854775807 := by simpa [maxLen] using hn
  have e : wrap64 (l - n) = l - n := by unfold wrap64; omega
  rw [e]
  by_cases hc : l - (n : Int) < 0
  · rw [decide_eq_true hc]; show (-1 : Int) ≤ l; omega
  · rw [decide_eq_false hc]; show l - (n : Int) ≤ l; omega
theorem nn {l : Int} (h : decide (l < 0) = false) : 0 ≤ l := by simpa using h
abbrev tr {α : Type} (x : α) : Prop := True
def Lm {α : Type} (sm : α → Prop) (xs : List α) : Prop := xs.length ≤ 1048576 ∧ ∀ x ∈ xs, sm x
theorem gt_mem {α : Type} [Inhabited α] {xs : List α} {i : Nat} (h : i < xs.length) : gt xs (i : Int) ∈ xs := by
  rw [gt_eq (i := (i : Int)) (by simpa using h)]
  exact List.getElem_mem _
/-- Sizes, added up. -/
theorem Evt.szl {α : Type} [Inhabited α] {L : Nat → Int → Int → Option (Int ⊕ Int)} {sm : α → Prop} (xs : List α) (hn : xs.length ≤ 9223372036854775807)
    (step : ∀ i, i < xs.length → ∀ left, 0 ≤ left → left ≤ 1048576 → ∃ t, t ≤ left ∧ (0 ≤ t → sm (gt xs (i : Int))) ∧ (t < 0 → Evt (fun k => L k left (i : Int)) (.inl (-1))) ∧ ∀ o, 0 ≤ t → Evt (fun k => L k t (wrap64 ((i : Int) + 1))) o → Evt (fun k => L k left (i : Int)) o)
    (done : ∀ left, Evt (fun k => L k left (xs.length : Int)) (.inr left)) (l : Int) (h0 : 0 ≤ l) (h1 : l ≤ 1048576) :
    ∃ o, Evt (fun k => L k l 0) o ∧ match o with | .inl r => r = -1 | .inr t => 0 ≤ t ∧ t ≤ l ∧ ∀ x ∈ xs, sm x := by
  have key : ∀ d i l, i + d = xs.length → 0 ≤ l → l ≤ 1048576 → ∃ o, Evt (fun k => L k l (i : Int)) o ∧ match o with | .inl r => r = -1 | .inr t => 0 ≤ t ∧ t ≤ l ∧ ∀ j, i ≤ j → j < xs.length → sm (gt xs (j : Int)) := by
    intro d
    induction d with
    | zero =>
      intro i l hi h0 h1
      have e : i = xs.length := by omega
      subst e
      exact ⟨_, done l, h0, by omega, fun j h2 h3 => by omega⟩
    | succ d ih =>
      intro i l hi h0 h1
      obtain ⟨t, a1, a2, a3, a4⟩ := step i (by omega) l h0 h1
      by_cases c : t < 0
      · exact ⟨_, a3 c, rfl⟩
      · obtain ⟨o, b1, b2⟩ := ih (i + 1) t (by omega) (by omega) (by omega)
        refine ⟨o, a4 o (by omega) (by rw [w64 (by omega : i < xs.length) hn]; exact b1), ?_⟩
        cases o with
        | inl r => exact b2
        | inr u =>
          refine ⟨b2.1, by have := b2.2.1; omega, fun j h2 h3 => ?_⟩
          by_cases e : j = i
          · subst e; exact a2 (by omega)
          · exact b2.2.2 j (by omega) h3
  obtain ⟨o, b1, b2⟩ := key xs.length 0 l (by omega) h0 h1
  refine ⟨o, b1, ?_⟩
  cases o with
  | inl r => exact b2
  | inr u =>
    refine ⟨b2.1, b2.2.1, fun x hx => ?_⟩
    obtain ⟨j, hj, e⟩ := List.getElem_of_mem hx
    have := b2.2.2 j (by omega) hj
    rw [gt_eq (i := (j : Int)) (by simpa using hj)] at this
    simpa [e] using this

theorem Evt_t2 {β : Type} {f g nxt : Nat → Option (β ⊕ Unit)} {c : Bool} {v : Option β} (hc : c = true) (h : StE f nxt v) : StE (fun n => bif c then f n else g n) nxt v := by subst hc; exact h
theorem Lm_take {α : Type} {sm : α → Prop} {xs : List α} {n : Nat} (h : Lm sm xs) : Lm sm (xs.take n) := ⟨by have := h.1; rw [List.length_take]; omega, fun x hx => h.2 x (List.mem_of_mem_take hx)⟩
theorem Lm_drop {α : Type} {sm : α → Prop} {xs : List α} {n : Nat} (h : Lm sm xs) : Lm sm (xs.drop n) := ⟨by have := h.1; rw [List.length_drop]; omega, fun x hx => h.2 x (List.mem_of_mem_drop hx)⟩
/-! searches, told by 'any' -/
theorem found_any {β γ : Type} (l : List Nat) (p : Nat → Bool) (a : β) (r : β → γ) (c : γ) : onO (l.findSome? fun i => bif p i then some a else none) r c = bif l.any p then r a else c := by
  induction l with
  | nil => rfl
  | cons i l ih =>
    rw [List.findSome?_cons, List.any_cons]
    cases p i
    · simpa using ih
    · rfl
theorem idx_any (l : List Nat) (p : Nat → Bool) : decide (0 ≤ onO (l.findSome? fun i => bif p i then some (i : Int) else none) (fun r => r) (-1)) = l.any p := by
  induction l with
  | nil => rfl
  | cons i l ih =>
    rw [List.findSome?_cons, List.any_cons]
    cases p i
    · simpa using ih
    · simp [onO]
theorem band1 {c d e : Bool} : (c && (bif c then d else e)) = (c && d) := by cases c <;> rfl
theorem bor1 {c d e : Bool} : (c || (bif !c then d else e)) = (c || d) := by cases c <;> rfl
theorem bnn1 {c d e : Bool} : ((!c) || (!(bif (!(!c)) then d else e))) = ((!c) || (!d)) := by cases c <;> rfl
theorem bnn2 {c d : Bool} : ((!c) || (!d)) = !(c && d) := by cases c <;> rfl
theorem bnn3 {c d e : Bool} : ((!c) || (!(bif !(!c) then d else e))) = !(c && d) := by cases c <;> rfl
theorem bn_n {c d e : Bool} : (!c || !(bif c then d else e)) = !(c && d) := by cases c <;> rfl
theorem rng1 {a lo hi : Int} : (decide (a < lo) || decide (hi < a)) = !(decide (lo ≤ a) && decide (a ≤ hi)) := by
  by_cases h1 : a < lo
  · have : ¬ lo ≤ a := by omega
    simp [h1, this]
  · have h2 : lo ≤ a := by omega
    by_cases h3 : hi < a
    · have : ¬ a ≤ hi := by omega
      simp [h1, h2, h3, this]
    · have : a ≤ hi := by omega
      simp [h1, h2, h3, this]
theorem at_any (l : List Nat) (p : Nat → Bool) (h : ∀ i ∈ l, i < 4611686018427387904) : decide (0 < onO (l.findSome? fun i => bif p i then some (wrap64 ((i : Int) + 1)) else none) (fun r => r) 0) = l.any p := by
  induction l with
  | nil => rfl
  | cons i l ih =>
    rw [List.findSome?_cons, List.any_cons]
    have hi := h i (by simp)
    have hl : ∀ j ∈ l, j < 4611686018427387904 := fun j hj => h j (List.mem_cons_of_mem _ hj)
    clear h
    cases p i
    · exact ih hl
    · have e : wrap64 ((i : Int) + 1) = (i : Int) + 1 := by unfold wrap64; omega
      rw [e]
      show decide (0 < (i : Int) + 1) = true
      exact decide_eq_true (by omega)
theorem fs_congr {β : Type} {l : List Nat} {f g : Nat → Option β} (h : ∀ i ∈ l, f i = g i) : l.findSome? f = l.findSome? g := by
  induction l with
  | nil => rfl
  | cons i l ih => rw [List.findSome?_cons, List.findSome?_cons, h i (by simp), ih fun j hj => h j (by simp [hj])]
theorem any_congr' {l : List Nat} {f g : Nat → Bool} (h : ∀ i ∈ l, f i = g i) : l.any f = l.any g := by
  induction l with
  | nil => rfl
  | cons i l ih => rw [List.any_cons, List.any_cons, h i (by simp), ih fun j hj => h j (by simp [hj])]
theorem in_range {i n : Nat} (h : i ∈ List.range' 0 (n - 0)) : i < n := by
  have := List.mem_range'_1.1 h
  omega
theorem gt_take {α : Type} [Inhabited α] {xs : List α} {n j : Nat} (h : j < n) : gt (xs.take n) (j : Int) = gt xs (j : Int) := by
  unfold gt
  have e : ((j : Int)).toNat = j := by simp
  rw [e, List.getD_eq_getElem?_getD, List.getD_eq_getElem?_getD, List.getElem?_take, if_pos h]
theorem any_take {α : Type} [Inhabited α] {xs : List α} {i : Nat} (h : i ≤ xs.length) (p : α → Bool) :
    (List.range' 0 ((xs.take i).length - 0)).any (fun j => p (gt (xs.take i) (j : Int))) = (List.range' 0 (i - 0)).any (fun j => p (gt xs (j : Int))) := by
  have e : (xs.take i).length = i := by rw [List.length_take]; omega
  rw [e]
  exact any_congr' fun j hj => by rw [gt_take (in_range hj)]
theorem sEq_comm (a b : ByteArray) : sEq a b = sEq b a := by unfold sEq; exact BEq.comm
theorem bifb {b : Bool} : (bif b then true else false) = b := by cases b <;> rfl
theorem idx_found {n : Nat} {p : Nat → Bool} (h : 0 ≤ onO ((List.range' 0 (n - 0)).findSome? fun i => bif p i then some (i : Int) else none) (fun r => r) (-1)) : idxOk (onO ((List.range' 0 (n - 0)).findSome? fun i => bif p i then some (i : Int) else none) (fun r => r) (-1)) n = true := by
  have key : ∀ l : List Nat, (∀ i ∈ l, i < n) → 0 ≤ onO (l.findSome? fun i => bif p i then some (i : Int) else none) (fun r => r) (-1) → idxOk (onO (l.findSome? fun i => bif p i then some (i : Int) else none) (fun r => r) (-1)) n = true := by
    intro l
    induction l with
    | nil => intro _ h; exact absurd h (by show ¬ (0 : Int) ≤ -1; omega)
    | cons i l ih =>
      intro hl h
      rw [List.findSome?_cons] at h ⊢
      cases hp : p i
      · rw [hp] at h; exact ih (fun j hj => hl j (List.mem_cons_of_mem _ hj)) h
      · exact idx_ok (hl i (List.mem_cons_self ..))
  exact key _ (fun i hi => in_range hi) h
theorem cut_ok {i n : Nat} (h : i ≤ n) : cutOk (i : Int) n = true := by unfold cutOk; simp; omega
theorem len_eq {a b : Nat} (h : ((a : Int) != (b : Int)) = false) : a = b := by
  by_cases e : a = b
  · exact e
  · have : ((a : Int) != (b : Int)) = true := by simp; omega
    rw [this] at h; cases h

abbrev smRef (x : Ref) : Prop := tr x.fTx ∧ tr x.fAt
abbrev smRule (x : Rule) : Prop := (Lm tr) x.fKeys ∧ tr x.fNeed ∧ tr x.fAfter
abbrev smOut (x : Out) : Prop := tr x.fValue ∧ smRule x.fRule
abbrev smCoin (x : Coin) : Prop := smRef x.fRef ∧ smOut x.fOut ∧ tr x.fHeight ∧ tr x.fMined
abbrev smMember (x : Member) : Prop := tr x.fKey ∧ smRef x.fRef
abbrev smState (x : State) : Prop := tr x.fTip ∧ tr x.fHeight ∧ (Lm smCoin) x.fCoins ∧ (Lm smMember) x.fMembers
theorem szInt64S_ev (x : List Int) (o : (Lok (iOk .i64)) x) (l : Int) (h0 : 0 ≤ l) (h1 : l ≤ 1048576) : ∃ t, Evt (fun k => laws_szInt64S.f k x l) t ∧ t ≤ l ∧ (0 ≤ t → (Lm tr) x) := by
  have hn := o.1
  exact ⟨szL x.length l, Evt.if_ (Evt.self _) (Evt.self _), szL_le h0 h1 hn, fun h => ⟨by have := szL_ok (n := x.length) (l := l) (by simpa using h) h0 h1 hn; omega, by simp⟩⟩
theorem szRule_ev (x : Rule) (o : okRule x) (l : Int) (h0 : 0 ≤ l) (h1 : l ≤ 1048576) : ∃ t, Evt (fun k => laws_szRule.f k x l) t ∧ t ≤ l ∧ (0 ≤ t → smRule x) := by
  obtain ⟨t0, e0, l0, s0⟩ := szInt64S_ev x.fKeys o.1 l (by omega) (by omega)
  by_cases c0 : t0 < 0
  · exact ⟨-1, Evt.bind e0 (Evt.t (by simpa using c0) (Evt.self _)), by omega, fun h => by omega⟩
  exact ⟨t0, Evt.bind e0 (Evt.f (by simpa using c0) (Evt.self _)), by omega, fun _ => ⟨s0 (by omega), (by repeat' (first | trivial | constructor)), (by repeat' (first | trivial | constructor))⟩⟩
theorem szOut_ev (x : Out) (o : okOut x) (l : Int) (h0 : 0 ≤ l) (h1 : l ≤ 1048576) : ∃ t, Evt (fun k => laws_szOut.f k x l) t ∧ t ≤ l ∧ (0 ≤ t → smOut x) := by
  obtain ⟨t0, e0, l0, s0⟩ := szRule_ev x.fRule o.2 l (by omega) (by omega)
  by_cases c0 : t0 < 0
  · exact ⟨-1, Evt.bind e0 (Evt.t (by simpa using c0) (Evt.self _)), by omega, fun h => by omega⟩
  exact ⟨t0, Evt.bind e0 (Evt.f (by simpa using c0) (Evt.self _)), by omega, fun _ => ⟨(by repeat' (first | trivial | constructor)), s0 (by omega)⟩⟩
theorem szCoin_ev (x : Coin) (o : okCoin x) (l : Int) (h0 : 0 ≤ l) (h1 : l ≤ 1048576) : ∃ t, Evt (fun k => laws_szCoin.f k x l) t ∧ t ≤ l ∧ (0 ≤ t → smCoin x) := by
  obtain ⟨t0, e0, l0, s0⟩ := szOut_ev x.fOut o.2.1 l (by omega) (by omega)
  by_cases c0 : t0 < 0
  · exact ⟨-1, Evt.bind e0 (Evt.t (by simpa using c0) (Evt.self _)), by omega, fun h => by omega⟩
  exact ⟨t0, Evt.bind e0 (Evt.f (by simpa using c0) (Evt.self _)), by omega, fun _ => ⟨(by repeat' (first | trivial | constructor)), s0 (by omega), (by repeat' (first | trivial | constructor)), (by repeat' (first | trivial | constructor))⟩⟩
theorem szCoinS_ev (x : List Coin) (o : (Lok okCoin) x) (l : Int) (h0 : 0 ≤ l) (h1 : l ≤ 1048576) : ∃ t, Evt (fun k => laws_szCoinS.f k x l) t ∧ t ≤ l ∧ (0 ≤ t → (Lm smCoin) x) := by
  have hn := o.1
  have hn' : x.length ≤ 9223372036854775807 := by simpa [maxLen] using hn
  by_cases c : decide (szL x.length l < 0) = true
  · refine ⟨-1, (Evt.t (f := fun _ => some (-1)) ?_ (Evt.self _)), by omega, fun h => by omega⟩
    have e : wrap64 (l - (x.length : Int)) = l - (x.length : Int) := by unfold wrap64; omega
    rw [e]
    by_cases c2 : l - (x.length : Int) < 0
    · exact decide_eq_true c2
    · unfold szL at c; rw [e, decide_eq_false c2] at c; simp at c; omega
  have c' : decide (szL x.length l < 0) = false := by simpa using c
  obtain ⟨h2, h3⟩ := szL_ok c' h0 h1 hn
  have e : wrap64 (l - (x.length : Int)) = l - (x.length : Int) := by unfold wrap64; omega
  obtain ⟨r, hr, hr2⟩ := Evt.szl (L := fun k left i => laws_szCoinS.l0 x k left i) (sm := smCoin) x hn' (fun i hi left a0 a1 => by
    obtain ⟨t, e1, e2, e3⟩ := szCoin_ev (gt x (i : Int)) (o.2 _ (gt_mem hi)) left a0 a1
    refine ⟨t, e2, e3, fun c => ?_, fun o c ho => ?_⟩
    · refine Evt.s ?_
      simp only [laws_szCoinS.l0_s]
      exact Evt.t (int_lt hi) (Evt.chk (idx_ok hi) (Evt.bind e1 (Evt.t (by simpa using c) (Evt.self _))))
    · refine Evt.s ?_
      simp only [laws_szCoinS.l0_s]
      exact Evt.t (int_lt hi) (Evt.chk (idx_ok hi) (Evt.bind e1 (Evt.f (by simpa using c) ho)))) (fun left => by
    refine Evt.s ?_
    simp only [laws_szCoinS.l0_s]
    exact Evt.f int_nlt (Evt.self _)) (l - (x.length : Int)) (by omega) (by omega)
  refine ⟨onw r id id, Evt.f (by rw [e]; simpa using h2) (Evt.thn (r' := id) (g' := id) (by rw [e]; exact hr) (fun _ => rfl) (fun y _ => Evt.self y)), ?_, ?_⟩
  · cases r with
    | inl r => have h5 : r = -1 := hr2; subst h5; show (-1 : Int) ≤ l; omega
    | inr t => have h5 : 0 ≤ t ∧ t ≤ l - (x.length : Int) ∧ _ := hr2; show t ≤ l; omega
  · intro h
    cases r with
    | inl r => have h5 : r = -1 := hr2; subst h5; simp [onw] at h
    | inr t => have h5 : 0 ≤ t ∧ t ≤ l - (x.length : Int) ∧ _ := hr2; exact ⟨by omega, h5.2.2⟩
theorem szMemberS_ev (x : List Member) (o : (Lok okMember) x) (l : Int) (h0 : 0 ≤ l) (h1 : l ≤ 1048576) : ∃ t, Evt (fun k => laws_szMemberS.f k x l) t ∧ t ≤ l ∧ (0 ≤ t → (Lm smMember) x) := by
  have hn := o.1
  exact ⟨szL x.length l, Evt.if_ (Evt.self _) (Evt.self _), szL_le h0 h1 hn, fun h => ⟨by have := szL_ok (n := x.length) (l := l) (by simpa using h) h0 h1 hn; omega, by simp⟩⟩
theorem szState_ev (x : State) (o : okState x) (l : Int) (h0 : 0 ≤ l) (h1 : l ≤ 1048576) : ∃ t, Evt (fun k => laws_szState.f k x l) t ∧ t ≤ l ∧ (0 ≤ t → smState x) := by
  obtain ⟨t0, e0, l0, s0⟩ := szCoinS_ev x.fCoins o.2.2.1 l (by omega) (by omega)
  by_cases c0 : t0 < 0
  · exact ⟨-1, Evt.bind e0 (Evt.t (by simpa using c0) (Evt.self _)), by omega, fun h => by omega⟩
  obtain ⟨t1, e1, l1, s1⟩ := szMemberS_ev x.fMembers o.2.2.2 t0 (by omega) (by omega)
  by_cases c1 : t1 < 0
  · exact ⟨-1, Evt.bind e0 (Evt.f (by simpa using c0) (Evt.bind e1 (Evt.t (by simpa using c1) (Evt.self _)))), by omega, fun h => by omega⟩
  exact ⟨t1, Evt.bind e0 (Evt.f (by simpa using c0) (Evt.bind e1 (Evt.f (by simpa using c1) (Evt.self _)))), by omega, fun _ => ⟨(by repeat' (first | trivial | constructor)), (by repeat' (first | trivial | constructor)), s0 (by omega), s1 (by omega)⟩⟩
theorem toRef_ev (x : Ref) (h : smRef x) : Evt (fun k => laws_toRef.f k x) x := Evt.self _
theorem toInt64S_ev (x : List Int) (h : (Lm tr) x) : Evt (fun k => laws_toInt64S.f k x) x := by
  have hn := h.1
  refine Evt.chk (by simp) (Evt.chk (by simp [leB]; omega) (Evt.bind (a := x) ?_ (Evt.self _)))
  have := Evt.copy (L := fun k acc i => laws_toInt64S.l0 x k acc i) x id (by omega) (fun acc i hl hi r hr => ?_) (fun acc => ?_) (List.replicate ((x.length : Int)).toNat 0) (by simp)
  · simpa using this
  · refine Evt.s ?_
    simp only [laws_toInt64S.l0_s]
    refine Evt.t (int_lt hi) (Evt.chk (idx_ok hi) (Evt.chk (idx_ok (hl ▸ hi)) ?_))
    simpa using hr
  · refine Evt.s ?_
    simp only [laws_toInt64S.l0_s]
    exact Evt.f int_nlt (Evt.self _)
theorem toRule_ev (x : Rule) (h : smRule x) : Evt (fun k => laws_toRule.f k x) x := Evt.bind (toInt64S_ev _ h.1) (Evt.self _)
theorem toOut_ev (x : Out) (h : smOut x) : Evt (fun k => laws_toOut.f k x) x := Evt.bind (toRule_ev _ h.2) (Evt.self _)
theorem toCoin_ev (x : Coin) (h : smCoin x) : Evt (fun k => laws_toCoin.f k x) x := Evt.bind (toRef_ev _ h.1) (Evt.bind (toOut_ev _ h.2.1) (Evt.self _))
theorem toCoinS_ev (x : List Coin) (h : (Lm smCoin) x) : Evt (fun k => laws_toCoinS.f k x) x := by
  have hn := h.1
  refine Evt.chk (by simp) (Evt.chk (by simp [leB]; omega) (Evt.bind (a := x) ?_ (Evt.self _)))
  have := Evt.copy (L := fun k acc i => laws_toCoinS.l0 x k acc i) x id (by omega) (fun acc i hl hi r hr => ?_) (fun acc => ?_) (List.replicate ((x.length : Int)).toNat (⟨(⟨0, 0⟩ : Ref), (⟨0, (⟨[], 0, 0⟩ : Rule)⟩ : Out), 0, false⟩ : Coin)) (by simp)
  · simpa using this
  · refine Evt.s ?_
    simp only [laws_toCoinS.l0_s]
    refine Evt.t (int_lt hi) (Evt.chk (idx_ok hi) (Evt.bind (toCoin_ev _ (h.2 _ (gt_mem hi))) (Evt.chk (idx_ok (hl ▸ hi)) ?_)))
    simpa using hr
  · refine Evt.s ?_
    simp only [laws_toCoinS.l0_s]
    exact Evt.f int_nlt (Evt.self _)
theorem toMember_ev (x : Member) (h : smMember x) : Evt (fun k => laws_toMember.f k x) x := Evt.bind (toRef_ev _ h.2) (Evt.self _)
theorem toMemberS_ev (x : List Member) (h : (Lm smMember) x) : Evt (fun k => laws_toMemberS.f k x) x := by
  have hn := h.1
  refine Evt.chk (by simp) (Evt.chk (by simp [leB]; omega) (Evt.bind (a := x) ?_ (Evt.self _)))
  have := Evt.copy (L := fun k acc i => laws_toMemberS.l0 x k acc i) x id (by omega) (fun acc i hl hi r hr => ?_) (fun acc => ?_) (List.replicate ((x.length : Int)).toNat (⟨0, (⟨0, 0⟩ : Ref)⟩ : Member)) (by simp)
  · simpa using this
  · refine Evt.s ?_
    simp only [laws_toMemberS.l0_s]
    refine Evt.t (int_lt hi) (Evt.chk (idx_ok hi) (Evt.bind (toMember_ev _ (h.2 _ (gt_mem hi))) (Evt.chk (idx_ok (hl ▸ hi)) ?_)))
    simpa using hr
  · refine Evt.s ?_
    simp only [laws_toMemberS.l0_s]
    exact Evt.f int_nlt (Evt.self _)
theorem toState_ev (x : State) (h : smState x) : Evt (fun k => laws_toState.f k x) x := Evt.bind (toCoinS_ev _ h.2.2.1) (Evt.bind (toMemberS_ev _ h.2.2.2) (Evt.self _))
def spec_l2Ints_v (x0 : List Int) (x1 : List Int) : Bool := (bif ((x0.length : Int) != (x1.length : Int)) then false else (onO ((List.range' 0 (x0.length - 0)).findSome? (fun (i0 : Nat) => (bif ((gt x0 (i0 : Int)) != (gt x1 (i0 : Int))) then (some false) else none))) (fun r => r) true))
theorem spec_l2Ints_ev (x0 : List Int) (x1 : List Int) (h_x0 : (Lm tr) x0) (h_x1 : (Lm tr) x1) : Evt (fun k => spec_l2Ints.f k x0 x1) (spec_l2Ints_v x0 x1) :=
  (Evt.ifh (fun hc2 => (Evt.self _)) (fun hc2 => (Evt.loop (r' := fun r => r) (Evt.srch (L := (fun k i => spec_l2Ints.l0 x0 x1 k i)) 0 x0.length (by have := h_x0; first | (have := this.1; omega) | omega) (fun (i0 : Nat) => (bif ((gt x0 (i0 : Int)) != (gt x1 (i0 : Int))) then (some false) else none)) (fun i0 hs2 hi2 => by
  have hbn : x0.length ≤ 9223372036854775807 := (by have := h_x0; first | (have := this.1; omega) | omega)
  simp only [spec_l2Ints.l0_s]
  exact Evt_t2 (int_lt hi2) (StE.chk (by first | exact idx_ok (by omega) | exact idx_ok (by have hq := len_eq (by assumption); omega) | exact idx_found (show (0 : Int) ≤ (i0 : Int) by simp_all) | exact cut_ok (by omega) | exact or_ok (idx_ok (by omega)) | (refine or1 (fun hz => pre_ok (by simp at hz; omega) (by omega) (by omega))) | exact pre_ok (by omega) (by omega) (by omega) | (simp_all [idxOk, cutOk, leB]; done) | (simp_all [idxOk, cutOk, leB]; omega) | (simp [idxOk, cutOk, leB] at *; omega)) (StE.chk (by first | exact idx_ok (by omega) | exact idx_ok (by have hq := len_eq (by assumption); omega) | exact idx_found (show (0 : Int) ≤ (i0 : Int) by simp_all) | exact cut_ok (by omega) | exact or_ok (idx_ok (by omega)) | (refine or1 (fun hz => pre_ok (by simp at hz; omega) (by omega) (by omega))) | exact pre_ok (by omega) (by omega) (by omega) | (simp_all [idxOk, cutOk, leB]; done) | (simp_all [idxOk, cutOk, leB]; omega) | (simp [idxOk, cutOk, leB] at *; omega)) (StE.ifh (fun hc1 => (StE.ret _)) (fun hc1 => StE.next))))) (fun j hj => by
  simp only [spec_l2Ints.l0_s]
  exact Evt.f (ge_lt hj) (Evt.self _))) (fun _ => rfl) (Evt.self _))))
def spec_l2Same_v (x0 : Rule) (x1 : Rule) : Bool := (((x0.fNeed == x1.fNeed) && (x0.fAfter == x1.fAfter)) && (bif ((x0.fNeed == x1.fNeed) && (x0.fAfter == x1.fAfter)) then (spec_l2Ints_v x0.fKeys x1.fKeys) else default))
theorem spec_l2Same_ev (x0 : Rule) (x1 : Rule) (h_x0 : smRule x0) (h_x1 : smRule x1) : Evt (fun k => spec_l2Same.f k x0 x1) (spec_l2Same_v x0 x1) :=
  (Evt.bind (Evt.ifh (fun _ => (spec_l2Ints_ev x0.fKeys x1.fKeys (h_x0.1) (h_x1.1))) (fun _ => Evt.self _)) (Evt.self _))
def spec_l4Same_v (x0 : List Coin) (x1 : List Coin) : Bool := (bif ((x0.length : Int) != (x1.length : Int)) then false else (onO ((List.range' 0 (x0.length - 0)).findSome? (fun (i0 : Nat) => (bif (((((!((((gt x0 (i0 : Int)).fRef.fTx) == ((gt x1 (i0 : Int)).fRef.fTx)) && (((gt x0 (i0 : Int)).fRef.fAt) == ((gt x1 (i0 : Int)).fRef.fAt)))) || (((gt x0 (i0 : Int)).fHeight) != ((gt x1 (i0 : Int)).fHeight))) || (((gt x0 (i0 : Int)).fMined) != ((gt x1 (i0 : Int)).fMined))) || (((gt x0 (i0 : Int)).fOut.fValue) != ((gt x1 (i0 : Int)).fOut.fValue))) || (!(bif (!((((!((((gt x0 (i0 : Int)).fRef.fTx) == ((gt x1 (i0 : Int)).fRef.fTx)) && (((gt x0 (i0 : Int)).fRef.fAt) == ((gt x1 (i0 : Int)).fRef.fAt)))) || (((gt x0 (i0 : Int)).fHeight) != ((gt x1 (i0 : Int)).fHeight))) || (((gt x0 (i0 : Int)).fMined) != ((gt x1 (i0 : Int)).fMined))) || (((gt x0 (i0 : Int)).fOut.fValue) != ((gt x1 (i0 : Int)).fOut.fValue)))) then (spec_l2Same_v ((gt x0 (i0 : Int)).fOut.fRule) ((gt x1 (i0 : Int)).fOut.fRule)) else default))) then (some false) else none))) (fun r => r) true))
theorem spec_l4Same_ev (x0 : List Coin) (x1 : List Coin) (h_x0 : (Lm smCoin) x0) (h_x1 : (Lm smCoin) x1) : Evt (fun k => spec_l4Same.f k x0 x1) (spec_l4Same_v x0 x1) :=
  (Evt.ifh (fun hc2 => (Evt.self _)) (fun hc2 => (Evt.loop (r' := fun r => r) (Evt.srch (L := (fun k i => spec_l4Same.l0 x0 x1 k i)) 0 x0.length (by have := h_x0; first | (have := this.1; omega) | omega) (fun (i0 : Nat) => (bif (((((!((((gt x0 (i0 : Int)).fRef.fTx) == ((gt x1 (i0 : Int)).fRef.fTx)) && (((gt x0 (i0 : Int)).fRef.fAt) == ((gt x1 (i0 : Int)).fRef.fAt)))) || (((gt x0 (i0 : Int)).fHeight) != ((gt x1 (i0 : Int)).fHeight))) || (((gt x0 (i0 : Int)).fMined) != ((gt x1 (i0 : Int)).fMined))) || (((gt x0 (i0 : Int)).fOut.fValue) != ((gt x1 (i0 : Int)).fOut.fValue))) || (!(bif (!((((!((((gt x0 (i0 : Int)).fRef.fTx) == ((gt x1 (i0 : Int)).fRef.fTx)) && (((gt x0 (i0 : Int)).fRef.fAt) == ((gt x1 (i0 : Int)).fRef.fAt)))) || (((gt x0 (i0 : Int)).fHeight) != ((gt x1 (i0 : Int)).fHeight))) || (((gt x0 (i0 : Int)).fMined) != ((gt x1 (i0 : Int)).fMined))) || (((gt x0 (i0 : Int)).fOut.fValue) != ((gt x1 (i0 : Int)).fOut.fValue)))) then (spec_l2Same_v ((gt x0 (i0 : Int)).fOut.fRule) ((gt x1 (i0 : Int)).fOut.fRule)) else default))) then (some false) else none)) (fun i0 hs2 hi2 => by
  have hbn : x0.length ≤ 9223372036854775807 := (by have := h_x0; first | (have := this.1; omega) | omega)
  simp only [spec_l4Same.l0_s]
  exact Evt_t2 (int_lt hi2) (StE.chk (by first | exact idx_ok (by omega) | exact idx_ok (by have hq := len_eq (by assumption); omega) | exact idx_found (show (0 : Int) ≤ (i0 : Int) by simp_all) | exact cut_ok (by omega) | exact or_ok (idx_ok (by omega)) | (refine or1 (fun hz => pre_ok (by simp at hz; omega) (by omega) (by omega))) | exact pre_ok (by omega) (by omega) (by omega) | (simp_all [idxOk, cutOk, leB]; done) | (simp_all [idxOk, cutOk, leB]; omega) | (simp [idxOk, cutOk, leB] at *; omega)) (StE.chk (by first | exact idx_ok (by omega) | exact idx_ok (by have hq := len_eq (by assumption); omega) | exact idx_found (show (0 : Int) ≤ (i0 : Int) by simp_all) | exact cut_ok (by omega) | exact or_ok (idx_ok (by omega)) | (refine or1 (fun hz => pre_ok (by simp at hz; omega) (by omega) (by omega))) | exact pre_ok (by omega) (by omega) (by omega) | (simp_all [idxOk, cutOk, leB]; done) | (simp_all [idxOk, cutOk, leB]; omega) | (simp [idxOk, cutOk, leB] at *; omega)) (StE.chk (by first | exact idx_ok (by omega) | exact idx_ok (by have hq := len_eq (by assumption); omega) | exact idx_found (by simp_all) | exact cut_ok (by omega) | exact or_ok (idx_ok (by omega)) | (refine or1 (fun hz => pre_ok (by simp at hz; omega) (by omega) (by omega))) | exact pre_ok (by omega) (by omega) (by omega) | (simp_all [idxOk, cutOk, leB]; done) | (simp_all [idxOk, cutOk, leB]; omega) | (simp [idxOk, cutOk, leB] at *; omega)) (StE.chk (by first | exact idx_ok (by omega) | exact idx_ok (by have hq := len_eq (by assumption); omega) | exact idx_found (by simp_all) | exact cut_ok (by omega) | exact or_ok (idx_ok (by omega)) | (refine or1 (fun hz => pre_ok (by simp at hz; omega) (by omega) (by omega))) | exact pre_ok (by omega) (by omega) (by omega) | (simp_all [idxOk, cutOk, leB]; done) | (simp_all [idxOk, cutOk, leB]; omega) | (simp [idxOk, cutOk, leB] at *; omega)) (StE.chk (by first | exact idx_ok (by omega) | exact idx_ok (by have hq := len_eq (by assumption); omega) | exact idx_found (by simp_all) | exact cut_ok (by omega) | exact or_ok (idx_ok (by omega)) | (refine or1 (fun hz => pre_ok (by simp at hz; omega) (by omega) (by omega))) | exact pre_ok (by omega) (by omega) (by omega) | (simp_all [idxOk, cutOk, leB]; done) | (simp_all [idxOk, cutOk, leB]; omega) | (simp [idxOk, cutOk, leB] at *; omega)) (StE.chk (by first | exact idx_ok (by omega) | exact idx_ok (by have hq := len_eq (by assumption); omega) | exact idx_found (by simp_all) | exact cut_ok (by omega) | exact or_ok (idx_ok (by omega)) | (refine or1 (fun hz => pre_ok (by simp at hz; omega) (by omega) (by omega))) | exact pre_ok (by omega) (by omega) (by omega) | (simp_all [idxOk, cutOk, leB]; done) | (simp_all [idxOk, cutOk, leB]; omega) | (simp [idxOk, cutOk, leB] at *; omega)) (StE.chk (by first | exact idx_ok (by omega) | exact idx_ok (by have hq := len_eq (by assumption); omega) | exact idx_found (by simp_all) | exact cut_ok (by omega) | exact or_ok (idx_ok (by omega)) | (refine or1 (fun hz => pre_ok (by simp at hz; omega) (by omega) (by omega))) | exact pre_ok (by omega) (by omega) (by omega) | (simp_all [idxOk, cutOk, leB]; done) | (simp_all [idxOk, cutOk, leB]; omega) | (simp [idxOk, cutOk, leB] at *; omega)) (StE.chk (by first | exact idx_ok (by omega) | exact idx_ok (by have hq := len_eq (by assumption); omega) | exact idx_found (by simp_all) | exact cut_ok (by omega) | exact or_ok (idx_ok (by omega)) | (refine or1 (fun hz => pre_ok (by simp at hz; omega) (by omega) (by omega))) | exact pre_ok (by omega) (by omega) (by omega) | (simp_all [idxOk, cutOk, leB]; done) | (simp_all [idxOk, cutOk, leB]; omega) | (simp [idxOk, cutOk, leB] at *; omega)) (StE.chk (by first | exact idx_ok (by omega) | exact idx_ok (by have hq := len_eq (by assumption); omega) | exact idx_found (by simp_all) | exact cut_ok (by omega) | exact or_ok (idx_ok (by omega)) | (refine or1 (fun hz => pre_ok (by simp at hz; omega) (by omega) (by omega))) | exact pre_ok (by omega) (by omega) (by omega) | (simp_all [idxOk, cutOk, leB]; done) | (simp_all [idxOk, cutOk, leB]; omega) | (simp [idxOk, cutOk, leB] at *; omega)) (StE.chk (by first | exact idx_ok (by omega) | exact idx_ok (by have hq := len_eq (by assumption); omega) | exact idx_found (by simp_all) | exact cut_ok (by omega) | exact or_ok (idx_ok (by omega)) | (refine or1 (fun hz => pre_ok (by simp at hz; omega) (by omega) (by omega))) | exact pre_ok (by omega) (by omega) (by omega) | (simp_all [idxOk, cutOk, leB]; done) | (simp_all [idxOk, cutOk, leB]; omega) | (simp [idxOk, cutOk, leB] at *; omega)) (StE.bind (Evt.ifh (fun _ => (spec_l2Same_ev ((gt x0 (i0 : Int)).fOut.fRule) ((gt x1 (i0 : Int)).fOut.fRule) ((((h_x0).2 _ (gt_mem (by first | omega | (have hq := len_eq (by assumption); omega)))).2.1).2) ((((h_x1).2 _ (gt_mem (by first | omega | (have hq := len_eq (by assumption); omega)))).2.1).2))) (fun _ => Evt.self _)) (StE.ifh (fun hc1 => (StE.ret _)) (fun hc1 => StE.next)))))))))))))) (fun j hj => by
  simp only [spec_l4Same.l0_s]
  exact Evt.f (ge_lt hj) (Evt.self _))) (fun _ => rfl) (Evt.self _))))
def spec_l6Same_v (x0 : List Member) (x1 : List Member) : Bool := (bif ((x0.length : Int) != (x1.length : Int)) then false else (onO ((List.range' 0 (x0.length - 0)).findSome? (fun (i0 : Nat) => (bif (!((((gt x0 (i0 : Int)).fKey) == ((gt x1 (i0 : Int)).fKey)) && ((((gt x0 (i0 : Int)).fRef.fTx) == ((gt x1 (i0 : Int)).fRef.fTx)) && (((gt x0 (i0 : Int)).fRef.fAt) == ((gt x1 (i0 : Int)).fRef.fAt))))) then (some false) else none))) (fun r => r) true))
theorem spec_l6Same_ev (x0 : List Member) (x1 : List Member) (h_x0 : (Lm smMember) x0) (h_x1 : (Lm smMember) x1) : Evt (fun k => spec_l6Same.f k x0 x1) (spec_l6Same_v x0 x1) :=
  (Evt.ifh (fun hc2 => (Evt.self _)) (fun hc2 => (Evt.loop (r' := fun r => r) (Evt.srch (L := (fun k i => spec_l6Same.l0 x0 x1 k i)) 0 x0.length (by have := h_x0; first | (have := this.1; omega) | omega) (fun (i0 : Nat) => (bif (!((((gt x0 (i0 : Int)).fKey) == ((gt x1 (i0 : Int)).fKey)) && ((((gt x0 (i0 : Int)).fRef.fTx) == ((gt x1 (i0 : Int)).fRef.fTx)) && (((gt x0 (i0 : Int)).fRef.fAt) == ((gt x1 (i0 : Int)).fRef.fAt))))) then (some false) else none)) (fun i0 hs2 hi2 => by
  have hbn : x0.length ≤ 9223372036854775807 := (by have := h_x0; first | (have := this.1; omega) | omega)
  simp only [spec_l6Same.l0_s]
  exact Evt_t2 (int_lt hi2) (StE.chk (by first | exact idx_ok (by omega) | exact idx_ok (by have hq := len_eq (by assumption); omega) | exact idx_found (show (0 : Int) ≤ (i0 : Int) by simp_all) | exact cut_ok (by omega) | exact or_ok (idx_ok (by omega)) | (refine or1 (fun hz => pre_ok (by simp at hz; omega) (by omega) (by omega))) | exact pre_ok (by omega) (by omega) (by omega) | (simp_all [idxOk, cutOk, leB]; done) | (simp_all [idxOk, cutOk, leB]; omega) | (simp [idxOk, cutOk, leB] at *; omega)) (StE.chk (by first | exact idx_ok (by omega) | exact idx_ok (by have hq := len_eq (by assumption); omega) | exact idx_found (show (0 : Int) ≤ (i0 : Int) by simp_all) | exact cut_ok (by omega) | exact or_ok (idx_ok (by omega)) | (refine or1 (fun hz => pre_ok (by simp at hz; omega) (by omega) (by omega))) | exact pre_ok (by omega) (by omega) (by omega) | (simp_all [idxOk, cutOk, leB]; done) | (simp_all [idxOk, cutOk, leB]; omega) | (simp [idxOk, cutOk, leB] at *; omega)) (StE.ifh (fun hc1 => (StE.ret _)) (fun hc1 => StE.next))))) (fun j hj => by
  simp only [spec_l6Same.l0_s]
  exact Evt.f (ge_lt hj) (Evt.self _))) (fun _ => rfl) (Evt.self _))))
def spec_l8Same_v (x0 : State) (x1 : State) : Bool := ((((x0.fTip == x1.fTip) && (x0.fHeight == x1.fHeight)) && (bif ((x0.fTip == x1.fTip) && (x0.fHeight == x1.fHeight)) then (spec_l4Same_v x0.fCoins x1.fCoins) else default)) && (bif (((x0.fTip == x1.fTip) && (x0.fHeight == x1.fHeight)) && (bif ((x0.fTip == x1.fTip) && (x0.fHeight == x1.fHeight)) then (spec_l4Same_v x0.fCoins x1.fCoins) else default)) then (spec_l6Same_v x0.fMembers x1.fMembers) else default))
theorem spec_l8Same_ev (x0 : State) (x1 : State) (h_x0 : smState x0) (h_x1 : smState x1) : Evt (fun k => spec_l8Same.f k x0 x1) (spec_l8Same_v x0 x1) :=
  (Evt.bind (Evt.ifh (fun _ => (spec_l4Same_ev x0.fCoins x1.fCoins (h_x0.2.2.1) (h_x1.2.2.1))) (fun _ => Evt.self _)) (Evt.bind (Evt.ifh (fun _ => (spec_l6Same_ev x0.fMembers x1.fMembers (h_x0.2.2.2) (h_x1.2.2.2))) (fun _ => Evt.self _)) (Evt.self _)))
def spec_SameStates_v (x0 : State) (x1 : State) : Bool := (spec_l8Same_v x0 x1)
theorem spec_SameStates_ev (x0 : State) (x1 : State) (h_x0 : smState x0) (h_x1 : smState x1) : Evt (fun k => spec_SameStates.f k x0 x1) (spec_SameStates_v x0 x1) :=
  (Evt.bind (spec_l8Same_ev x0 x1 (h_x0) (h_x1)) (Evt.self _))
def slices_Equal_int64_v (x0 : List Int) (x1 : List Int) : Bool := (bif ((x0.length : Int) != (x1.length : Int)) then false else (onO ((List.range' 0 (x0.length - 0)).findSome? (fun (i0 : Nat) => (bif ((gt x0 (i0 : Int)) != (gt x1 (i0 : Int))) then (some false) else none))) (fun r => r) true))
theorem slices_Equal_int64_ev (x0 : List Int) (x1 : List Int) (h_x0 : (Lm tr) x0) (h_x1 : (Lm tr) x1) : Evt (fun k => slices_Equal_int64.f k x0 x1) (slices_Equal_int64_v x0 x1) :=
  (Evt.ifh (fun hc2 => (Evt.self _)) (fun hc2 => (Evt.loop (r' := fun r => r) (Evt.srch (L := (fun k i => slices_Equal_int64.l0 x0 x1 k i)) 0 x0.length (by have := h_x0; first | (have := this.1; omega) | omega) (fun (i0 : Nat) => (bif ((gt x0 (i0 : Int)) != (gt x1 (i0 : Int))) then (some false) else none)) (fun i0 hs2 hi2 => by
  have hbn : x0.length ≤ 9223372036854775807 := (by have := h_x0; first | (have := this.1; omega) | omega)
  simp only [slices_Equal_int64.l0_s]
  exact Evt_t2 (int_lt hi2) (StE.chk (by first | exact idx_ok (by omega) | exact idx_ok (by have hq := len_eq (by assumption); omega) | exact idx_found (show (0 : Int) ≤ (i0 : Int) by simp_all) | exact cut_ok (by omega) | exact or_ok (idx_ok (by omega)) | (refine or1 (fun hz => pre_ok (by simp at hz; omega) (by omega) (by omega))) | exact pre_ok (by omega) (by omega) (by omega) | (simp_all [idxOk, cutOk, leB]; done) | (simp_all [idxOk, cutOk, leB]; omega) | (simp [idxOk, cutOk, leB] at *; omega)) (StE.chk (by first | exact idx_ok (by omega) | exact idx_ok (by have hq := len_eq (by assumption); omega) | exact idx_found (show (0 : Int) ≤ (i0 : Int) by simp_all) | exact cut_ok (by omega) | exact or_ok (idx_ok (by omega)) | (refine or1 (fun hz => pre_ok (by simp at hz; omega) (by omega) (by omega))) | exact pre_ok (by omega) (by omega) (by omega) | (simp_all [idxOk, cutOk, leB]; done) | (simp_all [idxOk, cutOk, leB]; omega) | (simp [idxOk, cutOk, leB] at *; omega)) (StE.ifh (fun hc1 => (StE.ret _)) (fun hc1 => StE.next))))) (fun j hj => by
  simp only [slices_Equal_int64.l0_s]
  exact Evt.f (ge_lt hj) (Evt.self _))) (fun _ => rfl) (Evt.self _))))
def impl_SameRules_v (x0 : Rule) (x1 : Rule) : Bool := (((slices_Equal_int64_v x0.fKeys x1.fKeys) && (x0.fNeed == x1.fNeed)) && (x0.fAfter == x1.fAfter))
theorem impl_SameRules_ev (x0 : Rule) (x1 : Rule) (h_x0 : smRule x0) (h_x1 : smRule x1) : Evt (fun k => impl_SameRules.f k x0 x1) (impl_SameRules_v x0 x1) :=
  (Evt.bind (slices_Equal_int64_ev x0.fKeys x1.fKeys (h_x0.1) (h_x1.1)) (Evt.self _))
def impl_sameOuts_v (x0 : Out) (x1 : Out) : Bool := ((x0.fValue == x1.fValue) && (bif (x0.fValue == x1.fValue) then (impl_SameRules_v x0.fRule x1.fRule) else default))
theorem impl_sameOuts_ev (x0 : Out) (x1 : Out) (h_x0 : smOut x0) (h_x1 : smOut x1) : Evt (fun k => impl_sameOuts.f k x0 x1) (impl_sameOuts_v x0 x1) :=
  (Evt.bind (Evt.ifh (fun _ => (impl_SameRules_ev x0.fRule x1.fRule (h_x0.2) (h_x1.2))) (fun _ => Evt.self _)) (Evt.self _))
def impl_sameCoin_v (x0 : Coin) (x1 : Coin) : Bool := (((((x0.fRef.fTx == x1.fRef.fTx) && (x0.fRef.fAt == x1.fRef.fAt)) && (bif ((x0.fRef.fTx == x1.fRef.fTx) && (x0.fRef.fAt == x1.fRef.fAt)) then (impl_sameOuts_v x0.fOut x1.fOut) else default)) && (x0.fHeight == x1.fHeight)) && (x0.fMined == x1.fMined))
theorem impl_sameCoin_ev (x0 : Coin) (x1 : Coin) (h_x0 : smCoin x0) (h_x1 : smCoin x1) : Evt (fun k => impl_sameCoin.f k x0 x1) (impl_sameCoin_v x0 x1) :=
  (Evt.bind (Evt.ifh (fun _ => (impl_sameOuts_ev x0.fOut x1.fOut (h_x0.2.1) (h_x1.2.1))) (fun _ => Evt.self _)) (Evt.self _))
def slices_EqualFunc_impl_Coin_v (x0 : List Coin) (x1 : List Coin) : Bool := (bif ((x0.length : Int) != (x1.length : Int)) then false else (onO ((List.range' 0 (x0.length - 0)).findSome? (fun (i0 : Nat) => (bif !(impl_sameCoin_v (gt x0 (i0 : Int)) (gt x1 (i0 : Int))) then (some false) else none))) (fun r => r) true))
theorem slices_EqualFunc_impl_Coin_ev (x0 : List Coin) (x1 : List Coin) (h_x0 : (Lm smCoin) x0) (h_x1 : (Lm smCoin) x1) : Evt (fun k => slices_EqualFunc_impl_Coin.f k x0 x1) (slices_EqualFunc_impl_Coin_v x0 x1) :=
  (Evt.ifh (fun hc2 => (Evt.self _)) (fun hc2 => (Evt.loop (r' := fun r => r) (Evt.srch (L := (fun k i => slices_EqualFunc_impl_Coin.l0 x0 x1 k i)) 0 x0.length (by have := h_x0; first | (have := this.1; omega) | omega) (fun (i0 : Nat) => (bif !(impl_sameCoin_v (gt x0 (i0 : Int)) (gt x1 (i0 : Int))) then (some false) else none)) (fun i0 hs2 hi2 => by
  have hbn : x0.length ≤ 9223372036854775807 := (by have := h_x0; first | (have := this.1; omega) | omega)
  simp only [slices_EqualFunc_impl_Coin.l0_s]
  exact Evt_t2 (int_lt hi2) (StE.chk (by first | exact idx_ok (by omega) | exact idx_ok (by have hq := len_eq (by assumption); omega) | exact idx_found (show (0 : Int) ≤ (i0 : Int) by simp_all) | exact cut_ok (by omega) | exact or_ok (idx_ok (by omega)) | (refine or1 (fun hz => pre_ok (by simp at hz; omega) (by omega) (by omega))) | exact pre_ok (by omega) (by omega) (by omega) | (simp_all [idxOk, cutOk, leB]; done) | (simp_all [idxOk, cutOk, leB]; omega) | (simp [idxOk, cutOk, leB] at *; omega)) (StE.chk (by first | exact idx_ok (by omega) | exact idx_ok (by have hq := len_eq (by assumption); omega) | exact idx_found (show (0 : Int) ≤ (i0 : Int) by simp_all) | exact cut_ok (by omega) | exact or_ok (idx_ok (by omega)) | (refine or1 (fun hz => pre_ok (by simp at hz; omega) (by omega) (by omega))) | exact pre_ok (by omega) (by omega) (by omega) | (simp_all [idxOk, cutOk, leB]; done) | (simp_all [idxOk, cutOk, leB]; omega) | (simp [idxOk, cutOk, leB] at *; omega)) (StE.bind (impl_sameCoin_ev (gt x0 (i0 : Int)) (gt x1 (i0 : Int)) ((h_x0).2 _ (gt_mem (by first | omega | (have hq := len_eq (by assumption); omega)))) ((h_x1).2 _ (gt_mem (by first | omega | (have hq := len_eq (by assumption); omega))))) (StE.ifh (fun hc1 => (StE.ret _)) (fun hc1 => StE.next)))))) (fun j hj => by
  simp only [slices_EqualFunc_impl_Coin.l0_s]
  exact Evt.f (ge_lt hj) (Evt.self _))) (fun _ => rfl) (Evt.self _))))
def impl_SameCoins_v (x0 : List Coin) (x1 : List Coin) : Bool := (slices_EqualFunc_impl_Coin_v x0 x1)
theorem impl_SameCoins_ev (x0 : List Coin) (x1 : List Coin) (h_x0 : (Lm smCoin) x0) (h_x1 : (Lm smCoin) x1) : Evt (fun k => impl_SameCoins.f k x0 x1) (impl_SameCoins_v x0 x1) :=
  (Evt.bind (slices_EqualFunc_impl_Coin_ev x0 x1 (h_x0) (h_x1)) (Evt.self _))
def slices_Equal_impl_Member_v (x0 : List Member) (x1 : List Member) : Bool := (bif ((x0.length : Int) != (x1.length : Int)) then false else (onO ((List.range' 0 (x0.length - 0)).findSome? (fun (i0 : Nat) => (bif (!((((gt x0 (i0 : Int)).fKey) == ((gt x1 (i0 : Int)).fKey)) && ((((gt x0 (i0 : Int)).fRef.fTx) == ((gt x1 (i0 : Int)).fRef.fTx)) && (((gt x0 (i0 : Int)).fRef.fAt) == ((gt x1 (i0 : Int)).fRef.fAt))))) then (some false) else none))) (fun r => r) true))
theorem slices_Equal_impl_Member_ev (x0 : List Member) (x1 : List Member) (h_x0 : (Lm smMember) x0) (h_x1 : (Lm smMember) x1) : Evt (fun k => slices_Equal_impl_Member.f k x0 x1) (slices_Equal_impl_Member_v x0 x1) :=
  (Evt.ifh (fun hc2 => (Evt.self _)) (fun hc2 => (Evt.loop (r' := fun r => r) (Evt.srch (L := (fun k i => slices_Equal_impl_Member.l0 x0 x1 k i)) 0 x0.length (by have := h_x0; first | (have := this.1; omega) | omega) (fun (i0 : Nat) => (bif (!((((gt x0 (i0 : Int)).fKey) == ((gt x1 (i0 : Int)).fKey)) && ((((gt x0 (i0 : Int)).fRef.fTx) == ((gt x1 (i0 : Int)).fRef.fTx)) && (((gt x0 (i0 : Int)).fRef.fAt) == ((gt x1 (i0 : Int)).fRef.fAt))))) then (some false) else none)) (fun i0 hs2 hi2 => by
  have hbn : x0.length ≤ 9223372036854775807 := (by have := h_x0; first | (have := this.1; omega) | omega)
  simp only [slices_Equal_impl_Member.l0_s]
  exact Evt_t2 (int_lt hi2) (StE.chk (by first | exact idx_ok (by omega) | exact idx_ok (by have hq := len_eq (by assumption); omega) | exact idx_found (show (0 : Int) ≤ (i0 : Int) by simp_all) | exact cut_ok (by omega) | exact or_ok (idx_ok (by omega)) | (refine or1 (fun hz => pre_ok (by simp at hz; omega) (by omega) (by omega))) | exact pre_ok (by omega) (by omega) (by omega) | (simp_all [idxOk, cutOk, leB]; done) | (simp_all [idxOk, cutOk, leB]; omega) | (simp [idxOk, cutOk, leB] at *; omega)) (StE.chk (by first | exact idx_ok (by omega) | exact idx_ok (by have hq := len_eq (by assumption); omega) | exact idx_found (show (0 : Int) ≤ (i0 : Int) by simp_all) | exact cut_ok (by omega) | exact or_ok (idx_ok (by omega)) | (refine or1 (fun hz => pre_ok (by simp at hz; omega) (by omega) (by omega))) | exact pre_ok (by omega) (by omega) (by omega) | (simp_all [idxOk, cutOk, leB]; done) | (simp_all [idxOk, cutOk, leB]; omega) | (simp [idxOk, cutOk, leB] at *; omega)) (StE.ifh (fun hc1 => (StE.ret _)) (fun hc1 => StE.next))))) (fun j hj => by
  simp only [slices_Equal_impl_Member.l0_s]
  exact Evt.f (ge_lt hj) (Evt.self _))) (fun _ => rfl) (Evt.self _))))
def impl_SameMembers_v (x0 : List Member) (x1 : List Member) : Bool := (slices_Equal_impl_Member_v x0 x1)
theorem impl_SameMembers_ev (x0 : List Member) (x1 : List Member) (h_x0 : (Lm smMember) x0) (h_x1 : (Lm smMember) x1) : Evt (fun k => impl_SameMembers.f k x0 x1) (impl_SameMembers_v x0 x1) :=
  (Evt.bind (slices_Equal_impl_Member_ev x0 x1 (h_x0) (h_x1)) (Evt.self _))
def impl_SameStates_v (x0 : State) (x1 : State) : Bool := ((((x0.fTip == x1.fTip) && (x0.fHeight == x1.fHeight)) && (bif ((x0.fTip == x1.fTip) && (x0.fHeight == x1.fHeight)) then (impl_SameCoins_v x0.fCoins x1.fCoins) else default)) && (bif (((x0.fTip == x1.fTip) && (x0.fHeight == x1.fHeight)) && (bif ((x0.fTip == x1.fTip) && (x0.fHeight == x1.fHeight)) then (impl_SameCoins_v x0.fCoins x1.fCoins) else default)) then (impl_SameMembers_v x0.fMembers x1.fMembers) else default))
theorem impl_SameStates_ev (x0 : State) (x1 : State) (h_x0 : smState x0) (h_x1 : smState x1) : Evt (fun k => impl_SameStates.f k x0 x1) (impl_SameStates_v x0 x1) :=
  (Evt.bind (Evt.ifh (fun _ => (impl_SameCoins_ev x0.fCoins x1.fCoins (h_x0.2.2.1) (h_x1.2.2.1))) (fun _ => Evt.self _)) (Evt.bind (Evt.ifh (fun _ => (impl_SameMembers_ev x0.fMembers x1.fMembers (h_x0.2.2.2) (h_x1.2.2.2))) (fun _ => Evt.self _)) (Evt.self _)))
theorem eqRef_ev (x : Ref) (h : smRef x) : Evt (fun k => laws_eqRef.f k x x) true := Evt.f (by simp [sEq_refl]) (Evt.f (by simp [sEq_refl]) (Evt.self _))
theorem eqInt64S_ev (x : List Int) (h : (Lm tr) x) : Evt (fun k => laws_eqInt64S.f k x x) true := by
  have hn := h.1
  refine (Evt.eqr (L := fun k i => laws_eqInt64S.l0 x x k i) (fun _ _ => true) x x (by omega) (fun i h1 h2 o ht hf => ?_) ?_).to (eqRows_refl (fun _ => rfl) x)
  · refine Evt.s ?_
    simp only [laws_eqInt64S.l0_s]
    exact Evt.t (int_lt h1) (Evt.chk (idx_ok h1) (Evt.chk (idx_ok h2) (Evt.f (by simp [sEq_refl]) (ht rfl))))
  · refine Evt.s ?_
    simp only [laws_eqInt64S.l0_s]
    exact Evt.f int_nlt (Evt.self _)
theorem eqRule_ev (x : Rule) (h : smRule x) : Evt (fun k => laws_eqRule.f k x x) true := Evt.bind (eqInt64S_ev _ h.1) (Evt.f rfl (Evt.f (by simp [sEq_refl]) (Evt.f (by simp [sEq_refl]) (Evt.self _))))
theorem eqOut_ev (x : Out) (h : smOut x) : Evt (fun k => laws_eqOut.f k x x) true := Evt.f (by simp [sEq_refl]) (Evt.bind (eqRule_ev _ h.2) (Evt.f rfl (Evt.self _)))
theorem eqCoin_ev (x : Coin) (h : smCoin x) : Evt (fun k => laws_eqCoin.f k x x) true := Evt.bind (eqRef_ev _ h.1) (Evt.f rfl (Evt.bind (eqOut_ev _ h.2.1) (Evt.f rfl (Evt.f (by simp [sEq_refl]) (Evt.f (by simp [sEq_refl]) (Evt.self _))))))
theorem eqCoinS_ev (x : List Coin) (h : (Lm smCoin) x) : Evt (fun k => laws_eqCoinS.f k x x) true := by
  have hn := h.1
  refine (Evt.eqr (L := fun k i => laws_eqCoinS.l0 x x k i) (fun _ _ => true) x x (by omega) (fun i h1 h2 o ht hf => ?_) ?_).to (eqRows_refl (fun _ => rfl) x)
  · refine Evt.s ?_
    simp only [laws_eqCoinS.l0_s]
    exact Evt.t (int_lt h1) (Evt.chk (idx_ok h1) (Evt.chk (idx_ok h2) (Evt.bind (eqCoin_ev _ (h.2 _ (gt_mem h1))) (Evt.f rfl (ht rfl)))))
  · refine Evt.s ?_
    simp only [laws_eqCoinS.l0_s]
    exact Evt.f int_nlt (Evt.self _)
theorem eqMember_ev (x : Member) (h : smMember x) : Evt (fun k => laws_eqMember.f k x x) true := Evt.f (by simp [sEq_refl]) (Evt.bind (eqRef_ev _ h.2) (Evt.f rfl (Evt.self _)))
theorem eqMemberS_ev (x : List Member) (h : (Lm smMember) x) : Evt (fun k => laws_eqMemberS.f k x x) true := by
  have hn := h.1
  refine (Evt.eqr (L := fun k i => laws_eqMemberS.l0 x x k i) (fun _ _ => true) x x (by omega) (fun i h1 h2 o ht hf => ?_) ?_).to (eqRows_refl (fun _ => rfl) x)
  · refine Evt.s ?_
    simp only [laws_eqMemberS.l0_s]
    exact Evt.t (int_lt h1) (Evt.chk (idx_ok h1) (Evt.chk (idx_ok h2) (Evt.bind (eqMember_ev _ (h.2 _ (gt_mem h1))) (Evt.f rfl (ht rfl)))))
  · refine Evt.s ?_
    simp only [laws_eqMemberS.l0_s]
    exact Evt.f int_nlt (Evt.self _)
theorem eqState_ev (x : State) (h : smState x) : Evt (fun k => laws_eqState.f k x x) true := Evt.f (by simp [sEq_refl]) (Evt.f (by simp [sEq_refl]) (Evt.bind (eqCoinS_ev _ h.2.2.1) (Evt.f rfl (Evt.bind (eqMemberS_ev _ h.2.2.2) (Evt.f rfl (Evt.self _))))))
theorem sameRules_eq (a b : Rule) : impl_SameRules_v a b = spec_l2Same_v a b := by
  have e : slices_Equal_int64_v a.fKeys b.fKeys = spec_l2Ints_v a.fKeys b.fKeys := rfl
  simp only [impl_SameRules_v, spec_l2Same_v, e]
  generalize spec_l2Ints_v a.fKeys b.fKeys = q
  cases (a.fNeed == b.fNeed) <;> cases (a.fAfter == b.fAfter) <;> cases q <;> rfl
theorem sameCoin_eq (a b : Coin) : (!(impl_sameCoin_v a b)) = (((((!((a.fRef.fTx == b.fRef.fTx) && (a.fRef.fAt == b.fRef.fAt))) || (a.fHeight != b.fHeight)) || (a.fMined != b.fMined)) || (a.fOut.fValue != b.fOut.fValue)) || (!(bif (!((((!((a.fRef.fTx == b.fRef.fTx) && (a.fRef.fAt == b.fRef.fAt))) || (a.fHeight != b.fHeight)) || (a.fMined != b.fMined)) || (a.fOut.fValue != b.fOut.fValue))) then (spec_l2Same_v a.fOut.fRule b.fOut.fRule) else default))) := by
  simp only [impl_sameCoin_v, impl_sameOuts_v, sameRules_eq, bne]
  generalize spec_l2Same_v a.fOut.fRule b.fOut.fRule = q
  generalize (a.fMined == b.fMined) = m
  cases (a.fRef.fTx == b.fRef.fTx) <;> cases (a.fRef.fAt == b.fRef.fAt) <;> cases (a.fHeight == b.fHeight) <;> cases m <;> cases (a.fOut.fValue == b.fOut.fValue) <;> cases q <;> rfl
theorem sameCoins_eq (x0 x1 : List Coin) : impl_SameCoins_v x0 x1 = spec_l4Same_v x0 x1 := by
  simp only [impl_SameCoins_v, slices_EqualFunc_impl_Coin_v, spec_l4Same_v, sameCoin_eq]
theorem same_FnExactSameStates (x0 : State) (h0 : smState x0) (o0 : okState x0) (x1 : State) (h1 : smState x1) (o1 : okState x1) : impl_SameStates_v x0 x1 = spec_SameStates_v x0 x1 := by
  have e : ∀ a b : List Member, impl_SameMembers_v a b = spec_l6Same_v a b := fun _ _ => rfl
  simp only [impl_SameStates_v, spec_SameStates_v, spec_l8Same_v, sameCoins_eq, e]
end Go.Proofs.Ytoiacoiccpiciaa.Zk
namespace Go.Proofs.Ytoiacoiccpiciaa.Pure
open Go Go.Proofs.Ytoiacoiccpiciaa.Zk
theorem FnExactSameStates (x0 : Zk.State) (x1 : Zk.State) (o_x0 : okState x0) (o_x1 : okState x1) : ∃ k, laws_FnExactSameStates.f k x0 x1 = some true := by
  refine Evt.get ?_
  obtain ⟨t0, e0, l0, s0⟩ := szState_ev x0 o_x0 1048576 (by omega) (by omega)
  by_cases c0 : t0 < 0
  · exact Evt.bind e0 (Evt.t (by simpa using c0) (Evt.self _))
  refine Evt.bind e0 (Evt.f (by simpa using c0) ?_)
  have m0 := s0 (by omega)
  obtain ⟨t1, e1, l1, s1⟩ := szState_ev x1 o_x1 t0 (by omega) (by omega)
  by_cases c1 : t1 < 0
  · exact Evt.bind e1 (Evt.t (by simpa using c1) (Evt.self _))
  refine Evt.bind e1 (Evt.f (by simpa using c1) ?_)
  have m1 := s1 (by omega)
  refine Evt.bind (toState_ev x0 (m0)) ?_
  refine Evt.bind (toState_ev x1 (m1)) ?_
  refine Evt.bind (spec_SameStates_ev x0 x1 (m0) (m1)) ?_
  refine Evt.bind (toState_ev x0 (m0)) ?_
  refine Evt.bind (toState_ev x1 (m1)) ?_
  refine Evt.bind ((impl_SameStates_ev x0 x1 (m0) (m1)).to (same_FnExactSameStates x0 (m0) o_x0 x1 (m1) o_x1)) ?_
  refine Evt.f (by simp) ?_
  refine Evt.bind (toState_ev x0 (m0)) ?_
  refine Evt.bind (eqState_ev _ (m0)) (Evt.f rfl ?_)
  refine Evt.bind (toState_ev x1 (m1)) ?_
  refine Evt.bind (eqState_ev _ (m1)) (Evt.f rfl ?_)
  exact Evt.self _
end Go.Proofs.Ytoiacoiccpiciaa.Pure
