/- The plain law of FnExactIsRipe: what the program's function and the reference's compute is the same. No condition. -/
import Derived.Test.YtkofpnbacgccnaaZkPure
import Derived.Test.YtkofpnbacgccnaaZkOpn
import Derived.Test.YtkofpnbacgccnaaZkF8
namespace Go.Proofs.Ytkofpnbacgccnaa.Zk
open Go Go.RowKit Go.IntWalk
set_option linter.unusedVariables false
set_option linter.unusedSimpArgs false

def szL (n : Nat) (l : Int) : Int := bif decide (wrap64 (l - n) < 0) then -1 else wrap64 (l - n)
theorem szL_ok {n : Nat} {l : Int} (h : decide (szL n l < 0) = false) (h0 : 0 ≤ l) (h1 : l ≤ 1048576) (hn : n ≤ maxLen) : (n : Int) ≤ l ∧ szL n l = l - n := by
  unfold szL at *
  have hn' : n ≤ 9223372036854775807 := by simpa [maxLen] using hn
  have e : wrap64 (l - n) = l - n := by unfold wrap64; omega
  rw [e] at h ⊢
  by_cases hc : l - (n : Int) < 0
  · rw [decide_eq_true hc] at h; cases h
  · rw [decide_eq_false hc]; exact ⟨by omega, rfl⟩
theorem szL_le {n : Nat} {l : Int} (h0 : 0 ≤ l) (h1 : l ≤ 1048576) (hn : n ≤ maxLen) : szL n l ≤ l := by
  unfold szL
  have hn' : n ≤ 9223372036854775807 := by simpa [maxLen] using hn
  have e : wrap64 (l - n) = l - n := by unfold wrap64; omega
  rw [e]
  by_cases hc : l - (n : Int) < 0
  · rw [decide_eq_true hc]; show (-1 : Int) ≤ l; omega
  · rw [decide_eq_false hc]; show l - (n : Int) ≤ l; omega
theorem nn {l : Int} (h : decide (l < 0) = false) : 0 ≤ l := by simpa using h
abbrev tr {α : Type} (x : α) : Prop := True
def Lm {α : Type} (sm : α → Prop) (xs : List α) : Prop := xs.length ≤ 1048576 ∧ ∀ x ∈ xs, sm x
theorem gt_mem {α : Type} [Inhabited α] {xs : List α} {i : Nat} (h : i < xs.length) : gt xs (i : Int) ∈ xs := by
  rw [gt_eq (i := (i : Int)) (by simpa using h)]
  exact List.getElem_mem _
/-- Sizes, added up. -/
theorem Evt.szl {α : Type} [Inhabited α] {L : Nat → Int → Int → Option (Int ⊕ Int)} {sm : α → Prop} (xs : List α) (hn : xs.length ≤ 9223372036854775807)
    (step : ∀ i, i < xs.length → ∀ left, 0 ≤ left → left ≤ 1048576 → ∃ t, t ≤ left ∧ (0 ≤ t → sm (gt xs (i : Int))) ∧ (t < 0 → Evt (fun k => L k left (i : Int)) (.inl (-1))) ∧ ∀ o, 0 ≤ t → Evt (fun k => L k t (wrap64 ((i : Int) + 1))) o → Evt (fun k => L k left (i : Int)) o)
    (done : ∀ left, Evt (fun k => L k left (xs.length : Int)) (.inr left)) (l : Int) (h0 : 0 ≤ l) (h1 : l ≤ 1048576) :
    ∃ o, Evt (fun k => L k l 0) o ∧ match o with | .inl r => r = -1 | .inr t => 0 ≤ t ∧ t ≤ l ∧ ∀ x ∈ xs, sm x := by
  have key : ∀ d i l, i + d = xs.length → 0 ≤ l → l ≤ 1048576 → ∃ o, Evt (fun k => L k l (i : Int)) o ∧ match o with | .inl r => r = -1 | .inr t => 0 ≤ t ∧ t ≤ l ∧ ∀ j, i ≤ j → j < xs.length → sm (gt xs (j : Int)) := by
    intro d
    induction d with
    | zero =>
      intro i l hi h0 h1
      have e : i = xs.length := by omega
      subst e
      exact ⟨_, done l, h0, by omega, fun j h2 h3 => by omega⟩
    | succ d ih =>
      intro i l hi h0 h1
      obtain ⟨t, a1, a2, a3, a4⟩ := step i (by omega) l h0 h1
      by_cases c : t < 0
      · exact ⟨_, a3 c, rfl⟩
      · obtain ⟨o, b1, b2⟩ := ih (i + 1) t (by omega) (by omega) (by omega)
        refine ⟨o, a4 o (by omega) (by rw [w64 (by omega : i < xs.length) hn]; exact b1), ?_⟩
        cases o with
        | inl r => exact b2
        | inr u =>
          refine ⟨b2.1, by have := b2.2.1; omega, fun j h2 h3 => ?_⟩
          by_cases e : j = i
          · subst e; exact a2 (by omega)
          · exact b2.2.2 j (by omega) h3
  obtain ⟨o, b1, b2⟩ := key xs.length 0 l (by omega) h0 h1
  refine ⟨o, b1, ?_⟩
  cases o with
  | inl r => exact b2
  | inr u =>
    refine ⟨b2.1, b2.2.1, fun x hx => ?_⟩
    obtain ⟨j, hj, e⟩ := List.getElem_of_mem hx
    have := b2.2.2 j (by omega) hj
    rw [gt_eq (i := (j : Int)) (by simpa using hj)] at this
    simpa [e] using this

theorem Evt_t2 {β : Type} {f g nxt : Nat → Option (β ⊕ Unit)} {c : Bool} {v : Option β} (hc : c = true) (h : StE f nxt v) : StE (fun n => bif c then f n else g n) nxt v := by subst hc; exact h
theorem Lm_take {α : Type} {sm : α → Prop} {xs : List α} {n : Nat} (h : Lm sm xs) : Lm sm (xs.take n) := ⟨by have := h.1; rw [List.length_take]; omega, fun x hx => h.2 x (List.mem_of_mem_take hx)⟩
theorem Lm_drop {α : Type} {sm : α → Prop} {xs : List α} {n : Nat} (h : Lm sm xs) : Lm sm (xs.drop n) := ⟨by have := h.1; rw [List.length_drop]; omega, fun x hx => h.2 x (List.mem_of_mem_drop hx)⟩
/-! searches, told by 'any' -/
theorem found_any {β γ : Type} (l : List Nat) (p : Nat → Bool) (a : β) (r : β → γ) (c : γ) : onO (l.findSome? fun i => bif p i then some a else none) r c = bif l.any p then r a else c := by
  induction l with
  | nil => rfl
  | cons i l ih =>
    rw [List.findSome?_cons, List.any_cons]
    cases p i
    · simpa using ih
    · rfl
theorem idx_any (l : List Nat) (p : Nat → Bool) : decide (0 ≤ onO (l.findSome? fun i => bif p i then some (i : Int) else none) (fun r => r) (-1)) = l.any p := by
  induction l with
  | nil => rfl
  | cons i l ih =>
    rw [List.findSome?_cons, List.any_cons]
    cases p i
    · simpa using ih
    · simp [onO]
theorem band1 {c d e : Bool} : (c && (bif c then d else e)) = (c && d) := by cases c <;> rfl
theorem bor1 {c d e : Bool} : (c || (bif !c then d else e)) = (c || d) := by cases c <;> rfl
theorem bnn1 {c d e : Bool} : ((!c) || (!(bif (!(!c)) then d else e))) = ((!c) || (!d)) := by cases c <;> rfl
theorem bnn2 {c d : Bool} : ((!c) || (!d)) = !(c && d) := by cases c <;> rfl
theorem bnn3 {c d e : Bool} : ((!c) || (!(bif !(!c) then d else e))) = !(c && d) := by cases c <;> rfl
theorem bn_n {c d e : Bool} : (!c || !(bif c then d else e)) = !(c && d) := by cases c <;> rfl
theorem rng1 {a lo hi : Int} : (decide (a < lo) || decide (hi < a)) = !(decide (lo ≤ a) && decide (a ≤ hi)) := by
  by_cases h1 : a < lo
  · have : ¬ lo ≤ a := by omega
    simp [h1, this]
  · have h2 : lo ≤ a := by omega
    by_cases h3 : hi < a
    · have : ¬ a ≤ hi := by omega
      simp [h1, h2, h3, this]
    · have : a ≤ hi := by omega
      simp [h1, h2, h3, this]
theorem at_any (l : List Nat) (p : Nat → Bool) (h : ∀ i ∈ l, i < 4611686018427387904) : decide (0 < onO (l.findSome? fun i => bif p i then some (wrap64 ((i : Int) + 1)) else none) (fun r => r) 0) = l.any p := by
  induction l with
  | nil => rfl
  | cons i l ih =>
    rw [List.findSome?_cons, List.any_cons]
    have hi := h i (by simp)
    have hl : ∀ j ∈ l, j < 4611686018427387904 := fun j hj => h j (List.mem_cons_of_mem _ hj)
    clear h
    cases p i
    · exact ih hl
    · have e : wrap64 ((i : Int) + 1) = (i : Int) + 1 := by unfold wrap64; omega
      rw [e]
      show decide (0 < (i : Int) + 1) = true
      exact decide_eq_true (by omega)
theorem fs_congr {β : Type} {l : List Nat} {f g : Nat → Option β} (h : ∀ i ∈ l, f i = g i) : l.findSome? f = l.findSome? g := by
  induction l with
  | nil => rfl
  | cons i l ih => rw [List.findSome?_cons, List.findSome?_cons, h i (by simp), ih fun j hj => h j (by simp [hj])]
theorem any_congr' {l : List Nat} {f g : Nat → Bool} (h : ∀ i ∈ l, f i = g i) : l.any f = l.any g := by
  induction l with
  | nil => rfl
  | cons i l ih => rw [List.any_cons, List.any_cons, h i (by simp), ih fun j hj => h j (by simp [hj])]
theorem in_range {i n : Nat} (h : i ∈ List.range' 0 (n - 0)) : i < n := by
  have := List.mem_range'_1.1 h
  omega
theorem gt_take {α : Type} [Inhabited α] {xs : List α} {n j : Nat} (h : j < n) : gt (xs.take n) (j : Int) = gt xs (j : Int) := by
  unfold gt
  have e : ((j : Int)).toNat = j := by simp
  rw [e, List.getD_eq_getElem?_getD, List.getD_eq_getElem?_getD, List.getElem?_take, if_pos h]
theorem any_take {α : Type} [Inhabited α] {xs : List α} {i : Nat} (h : i ≤ xs.length) (p : α → Bool) :
    (List.range' 0 ((xs.take i).length - 0)).any (fun j => p (gt (xs.take i) (j : Int))) = (List.range' 0 (i - 0)).any (fun j => p (gt xs (j : Int))) := by
  have e : (xs.take i).length = i := by rw [List.length_take]; omega
  rw [e]
  exact any_congr' fun j hj => by rw [gt_take (in_range hj)]
theorem sEq_comm (a b : ByteArray) : sEq a b = sEq b a := by unfold sEq; exact BEq.comm
theorem bifb {b : Bool} : (bif b then true else false) = b := by cases b <;> rfl

abbrev smIntResult (x : IntResult) : Prop := tr x.fCode ∧ tr x.fValue
abbrev smRef (x : Ref) : Prop := tr x.fTx ∧ tr x.fAt
abbrev smMember (x : Member) : Prop := tr x.fKey ∧ smRef x.fRef
abbrev smRule (x : Rule) : Prop := (Lm tr) x.fKeys ∧ tr x.fNeed ∧ tr x.fAfter
abbrev smBlock (x : Block) : Prop := tr x.fPrev ∧ tr x.fHeight ∧ tr x.fMiner ∧ (Lm tr) x.fTxs
abbrev smNode (x : Node) : Prop := tr x.fId ∧ tr x.fPrev ∧ tr x.fHeight
abbrev smOut (x : Out) : Prop := tr x.fValue ∧ smRule x.fRule
abbrev smCoin (x : Coin) : Prop := smRef x.fRef ∧ smOut x.fOut ∧ tr x.fHeight ∧ tr x.fMined
abbrev smSign (x : Sign) : Prop := tr x.fKey ∧ tr x.fId
abbrev smLedger (x : Ledger) : Prop := (Lm tr) x.fTexts ∧ (Lm smSign) x.fSigns
theorem szInt64S_ev (x : List Int) (o : (Lok (iOk .i64)) x) (l : Int) (h0 : 0 ≤ l) (h1 : l ≤ 1048576) : ∃ t, Evt (fun k => laws_szInt64S.f k x l) t ∧ t ≤ l ∧ (0 ≤ t → (Lm tr) x) := by
  have hn := o.1
  exact ⟨szL x.length l, Evt.if_ (Evt.self _) (Evt.self _), szL_le h0 h1 hn, fun h => ⟨by have := szL_ok (n := x.length) (l := l) (by simpa using h) h0 h1 hn; omega, by simp⟩⟩
theorem szRule_ev (x : Rule) (o : okRule x) (l : Int) (h0 : 0 ≤ l) (h1 : l ≤ 1048576) : ∃ t, Evt (fun k => laws_szRule.f k x l) t ∧ t ≤ l ∧ (0 ≤ t → smRule x) := by
  obtain ⟨t0, e0, l0, s0⟩ := szInt64S_ev x.fKeys o.1 l (by omega) (by omega)
  by_cases c0 : t0 < 0
  · exact ⟨-1, Evt.bind e0 (Evt.t (by simpa using c0) (Evt.self _)), by omega, fun h => by omega⟩
  exact ⟨t0, Evt.bind e0 (Evt.f (by simpa using c0) (Evt.self _)), by omega, fun _ => ⟨s0 (by omega), (by repeat' (first | trivial | constructor)), (by repeat' (first | trivial | constructor))⟩⟩
theorem szOut_ev (x : Out) (o : okOut x) (l : Int) (h0 : 0 ≤ l) (h1 : l ≤ 1048576) : ∃ t, Evt (fun k => laws_szOut.f k x l) t ∧ t ≤ l ∧ (0 ≤ t → smOut x) := by
  obtain ⟨t0, e0, l0, s0⟩ := szRule_ev x.fRule o.2 l (by omega) (by omega)
  by_cases c0 : t0 < 0
  · exact ⟨-1, Evt.bind e0 (Evt.t (by simpa using c0) (Evt.self _)), by omega, fun h => by omega⟩
  exact ⟨t0, Evt.bind e0 (Evt.f (by simpa using c0) (Evt.self _)), by omega, fun _ => ⟨(by repeat' (first | trivial | constructor)), s0 (by omega)⟩⟩
theorem szCoin_ev (x : Coin) (o : okCoin x) (l : Int) (h0 : 0 ≤ l) (h1 : l ≤ 1048576) : ∃ t, Evt (fun k => laws_szCoin.f k x l) t ∧ t ≤ l ∧ (0 ≤ t → smCoin x) := by
  obtain ⟨t0, e0, l0, s0⟩ := szOut_ev x.fOut o.2.1 l (by omega) (by omega)
  by_cases c0 : t0 < 0
  · exact ⟨-1, Evt.bind e0 (Evt.t (by simpa using c0) (Evt.self _)), by omega, fun h => by omega⟩
  exact ⟨t0, Evt.bind e0 (Evt.f (by simpa using c0) (Evt.self _)), by omega, fun _ => ⟨(by repeat' (first | trivial | constructor)), s0 (by omega), (by repeat' (first | trivial | constructor)), (by repeat' (first | trivial | constructor))⟩⟩
theorem toRef_ev (x : Ref) (h : smRef x) : Evt (fun k => laws_toRef.f k x) x := Evt.self _
theorem toInt64S_ev (x : List Int) (h : (Lm tr) x) : Evt (fun k => laws_toInt64S.f k x) x := by
  have hn := h.1
  refine Evt.chk (by simp) (Evt.chk (by simp [leB]; omega) (Evt.bind (a := x) ?_ (Evt.self _)))
  have := Evt.copy (L := fun k acc i => laws_toInt64S.l0 x k acc i) x id (by omega) (fun acc i hl hi r hr => ?_) (fun acc => ?_) (List.replicate ((x.length : Int)).toNat 0) (by simp)
  · simpa using this
  · refine Evt.s ?_
    simp only [laws_toInt64S.l0_s]
    refine Evt.t (int_lt hi) (Evt.chk (idx_ok hi) (Evt.chk (idx_ok (hl ▸ hi)) ?_))
    simpa using hr
  · refine Evt.s ?_
    simp only [laws_toInt64S.l0_s]
    exact Evt.f int_nlt (Evt.self _)
theorem toRule_ev (x : Rule) (h : smRule x) : Evt (fun k => laws_toRule.f k x) x := Evt.bind (toInt64S_ev _ h.1) (Evt.self _)
theorem toOut_ev (x : Out) (h : smOut x) : Evt (fun k => laws_toOut.f k x) x := Evt.bind (toRule_ev _ h.2) (Evt.self _)
theorem toCoin_ev (x : Coin) (h : smCoin x) : Evt (fun k => laws_toCoin.f k x) x := Evt.bind (toRef_ev _ h.1) (Evt.bind (toOut_ev _ h.2.1) (Evt.self _))
def spec_l1In_v (x0 : Int) (x1 : Int) (x2 : Int) : Bool := ((decide (x1 ≤ x0)) && (decide (x0 ≤ x2)))
theorem spec_l1In_ev (x0 : Int) (x1 : Int) (x2 : Int)  : Evt (fun k => spec_l1In.f k x0 x1 x2) (spec_l1In_v x0 x1 x2) :=
  (Evt.self _)
def spec_l2Height_v (x0 : Int) : Bool := (spec_l1In_v x0 0 999)
theorem spec_l2Height_ev (x0 : Int)  : Evt (fun k => spec_l2Height.f k x0) (spec_l2Height_v x0) :=
  (Evt.bind (spec_l1In_ev x0 0 999) (Evt.self _))
def spec_l5Ripe_v (x0 : Coin) (x1 : Int) : Bool := ((!x0.fMined) || (decide ((wrap64 (x0.fHeight + 2)) ≤ x1)))
theorem spec_l5Ripe_ev (x0 : Coin) (x1 : Int) (h_x0 : smCoin x0) : Evt (fun k => spec_l5Ripe.f k x0 x1) (spec_l5Ripe_v x0 x1) :=
  (Evt.self _)
def spec_IsRipe_v (x0 : Coin) (x1 : Int) : Bool := (((spec_l2Height_v x1) && (bif (spec_l2Height_v x1) then (spec_l2Height_v x0.fHeight) else default)) && (bif ((spec_l2Height_v x1) && (bif (spec_l2Height_v x1) then (spec_l2Height_v x0.fHeight) else default)) then (spec_l5Ripe_v x0 x1) else default))
theorem spec_IsRipe_ev (x0 : Coin) (x1 : Int) (h_x0 : smCoin x0) : Evt (fun k => spec_IsRipe.f k x0 x1) (spec_IsRipe_v x0 x1) :=
  (Evt.bind (spec_l2Height_ev x1) (Evt.bind (Evt.ifh (fun _ => (spec_l2Height_ev x0.fHeight)) (fun _ => Evt.self _)) (Evt.bind (Evt.ifh (fun _ => (spec_l5Ripe_ev x0 x1 (h_x0))) (fun _ => Evt.self _)) (Evt.self _))))
def impl_within_v (x0 : Int) (x1 : Int) (x2 : Int) : Bool := ((decide (x1 ≤ x0)) && (decide (x0 ≤ x2)))
theorem impl_within_ev (x0 : Int) (x1 : Int) (x2 : Int)  : Evt (fun k => impl_within.f k x0 x1 x2) (impl_within_v x0 x1 x2) :=
  (Evt.self _)
def impl_isHeight_v (x0 : Int) : Bool := (impl_within_v x0 0 999)
theorem impl_isHeight_ev (x0 : Int)  : Evt (fun k => impl_isHeight.f k x0) (impl_isHeight_v x0) :=
  (Evt.bind (impl_within_ev x0 0 999) (Evt.self _))
def impl_IsRipe_v (x0 : Coin) (x1 : Int) : Bool := (((impl_isHeight_v x0.fHeight) && (bif (impl_isHeight_v x0.fHeight) then (impl_isHeight_v x1) else default)) && ((!x0.fMined) || (decide ((wrap64 (x0.fHeight + 2)) ≤ x1))))
theorem impl_IsRipe_ev (x0 : Coin) (x1 : Int) (h_x0 : smCoin x0) : Evt (fun k => impl_IsRipe.f k x0 x1) (impl_IsRipe_v x0 x1) :=
  (Evt.bind (impl_isHeight_ev x0.fHeight) (Evt.bind (Evt.ifh (fun _ => (impl_isHeight_ev x1)) (fun _ => Evt.self _)) (Evt.self _)))
theorem eqRef_ev (x : Ref) (h : smRef x) : Evt (fun k => laws_eqRef.f k x x) true := Evt.f (by simp [sEq_refl]) (Evt.f (by simp [sEq_refl]) (Evt.self _))
theorem eqInt64S_ev (x : List Int) (h : (Lm tr) x) : Evt (fun k => laws_eqInt64S.f k x x) true := by
  have hn := h.1
  refine (Evt.eqr (L := fun k i => laws_eqInt64S.l0 x x k i) (fun _ _ => true) x x (by omega) (fun i h1 h2 o ht hf => ?_) ?_).to (eqRows_refl (fun _ => rfl) x)
  · refine Evt.s ?_
    simp only [laws_eqInt64S.l0_s]
    exact Evt.t (int_lt h1) (Evt.chk (idx_ok h1) (Evt.chk (idx_ok h2) (Evt.f (by simp [sEq_refl]) (ht rfl))))
  · refine Evt.s ?_
    simp only [laws_eqInt64S.l0_s]
    exact Evt.f int_nlt (Evt.self _)
theorem eqRule_ev (x : Rule) (h : smRule x) : Evt (fun k => laws_eqRule.f k x x) true := Evt.bind (eqInt64S_ev _ h.1) (Evt.f rfl (Evt.f (by simp [sEq_refl]) (Evt.f (by simp [sEq_refl]) (Evt.self _))))
theorem eqOut_ev (x : Out) (h : smOut x) : Evt (fun k => laws_eqOut.f k x x) true := Evt.f (by simp [sEq_refl]) (Evt.bind (eqRule_ev _ h.2) (Evt.f rfl (Evt.self _)))
theorem eqCoin_ev (x : Coin) (h : smCoin x) : Evt (fun k => laws_eqCoin.f k x x) true := Evt.bind (eqRef_ev _ h.1) (Evt.f rfl (Evt.bind (eqOut_ev _ h.2.1) (Evt.f rfl (Evt.f (by simp [sEq_refl]) (Evt.f (by simp [sEq_refl]) (Evt.self _))))))
theorem same_FnExactIsRipe (x0 : Coin) (h0 : smCoin x0) (o0 : okCoin x0) (x1 : Int) (o1 : iOk .i64 x1) : impl_IsRipe_v x0 x1 = spec_IsRipe_v x0 x1 := by
  simp only [impl_IsRipe_v, spec_IsRipe_v, impl_isHeight_v, spec_l2Height_v, impl_within_v, spec_l1In_v, spec_l5Ripe_v]
  generalize (decide (0 ≤ x0.fHeight) && decide (x0.fHeight ≤ 999)) = a
  generalize (decide (0 ≤ x1) && decide (x1 ≤ 999)) = b
  generalize ((!x0.fMined) || decide (wrap64 (x0.fHeight + 2) ≤ x1)) = c
  cases a <;> cases b <;> cases c <;> rfl
end Go.Proofs.Ytkofpnbacgccnaa.Zk
namespace Go.Proofs.Ytkofpnbacgccnaa.Pure
open Go Go.Proofs.Ytkofpnbacgccnaa.Zk
theorem FnExactIsRipe (x0 : Coin) (x1 : Int) (o_x0 : okCoin x0) (o_x1 : (iOk .i64) x1) : ∃ k, laws_FnExactIsRipe.f k x0 x1 = some true := by
  refine Evt.get ?_
  obtain ⟨t0, e0, l0, s0⟩ := szCoin_ev x0 o_x0 1048576 (by omega) (by omega)
  by_cases c0 : t0 < 0
  · exact Evt.bind e0 (Evt.t (by simpa using c0) (Evt.self _))
  refine Evt.bind e0 (Evt.f (by simpa using c0) ?_)
  have m0 := s0 (by omega)
  refine Evt.bind (toCoin_ev x0 (m0)) ?_
  refine Evt.bind (spec_IsRipe_ev x0 x1 (m0)) ?_
  refine Evt.bind (toCoin_ev x0 (m0)) ?_
  refine Evt.bind ((impl_IsRipe_ev x0 x1 (m0)).to (same_FnExactIsRipe x0 (m0) o_x0 x1 o_x1)) ?_
  refine Evt.f (by simp) ?_
  refine Evt.bind (toCoin_ev x0 (m0)) ?_
  refine Evt.bind (eqCoin_ev _ (m0)) (Evt.f rfl ?_)
  exact Evt.self _
end Go.Proofs.Ytkofpnbacgccnaa.Pure
