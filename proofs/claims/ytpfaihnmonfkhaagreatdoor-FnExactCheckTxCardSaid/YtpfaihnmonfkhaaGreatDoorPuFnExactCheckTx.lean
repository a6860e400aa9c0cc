/- The plain law of FnExactCheckTx: what the program's function and the reference's compute is the same. No condition. -/
import Derived.Test.YtpfaihnmonfkhaaGreatDoorZkPure
import Derived.Test.YtpfaihnmonfkhaaGreatDoorCheckTxZkOpn
import Derived.Test.YtpfaihnmonfkhaaGreatDoorCheckTxZkF13
namespace Go.Proofs.YtpfaihnmonfkhaaGreatDoor.Zk
open Go Go.RowKit Go.IntWalk
set_option linter.unusedVariables false
set_option linter.unusedSimpArgs false

def szL (n : Nat) (l : Int) : Int := bif decide (wrap64 (l - n) < 0) then -1 else wrap64 (l - n)
theorem szL_ok {n : Nat} {l : Int} (h : decide (szL n l < 0) = false) (h0 : 0 ≤ l) (h1 : l ≤ 1048576) (hn : n ≤ maxLen) : (n : Int) ≤ l ∧ szL n l = l - n := by
 unfold szL at *
 have hn' : n ≤ 9223372036854775807 := by simpa [maxLen] using hn
 have e : wrap64 (l - n) = l - n := by unfold wrap64; omega
 rw [e] at h ⊢
 by_cases hc : l - (n : Int) < 0
 ·rw [decide_eq_true hc] at h; cases h
 ·rw [decide_eq_false hc]; exact ⟨by omega, rfl⟩
theorem szL_le {n : Nat} {l : Int} (h0 : 0 ≤ l) (h1 : l ≤ 1048576) (hn : n ≤ maxLen) : szL n l ≤ l := by
 unfold szL
 have hn' : n ≤ 9223372036854775807 := by simpa [maxLen] using hn
 have e : wrap64 (l - n) = l - n := by unfold wrap64; omega
 rw [e]
 by_cases hc : l - (n : Int) < 0
 ·rw [decide_eq_true hc]; show (-1 : Int) ≤ l; omega
 ·rw [decide_eq_false hc]; show l - (n : Int) ≤ l; omega
abbrev tr {α : Type} (x : α) : Prop := True
def Lm {α : Type} (sm : α → Prop) (xs : List α) : Prop := xs.length ≤ 1048576 ∧ ∀ x ∈ xs, sm x
theorem gt_mem {α : Type} [Inhabited α] {xs : List α} {i : Nat} (h : i < xs.length) : gt xs (i : Int) ∈ xs := by
 rw [gt_eq (i := (i : Int)) (by simpa using h)]
 exact List.getElem_mem _
theorem Evt.szl {α : Type} [Inhabited α] {L : Nat → Int → Int → Option (Int ⊕ Int)} {sm : α → Prop} (xs : List α) (hn : xs.length ≤ 9223372036854775807)
  (step : ∀ i, i < xs.length → ∀ left, 0 ≤ left → left ≤ 1048576 → ∃ t, t ≤ left ∧ (0 ≤ t → sm (gt xs (i : Int))) ∧ (t < 0 → Evt (fun k => L k left (i : Int)) (.inl (-1))) ∧ ∀ o, 0 ≤ t → Evt (fun k => L k t (wrap64 ((i : Int) + 1))) o → Evt (fun k => L k left (i : Int)) o)
  (done : ∀ left, Evt (fun k => L k left (xs.length : Int)) (.inr left)) (l : Int) (h0 : 0 ≤ l) (h1 : l ≤ 1048576) :
  ∃ o, Evt (fun k => L k l 0) o ∧ match o with | .inl r => r = -1 | .inr t => 0 ≤ t ∧ t ≤ l ∧ ∀ x ∈ xs, sm x := by
 have key : ∀ d i l, i + d = xs.length → 0 ≤ l → l ≤ 1048576 → ∃ o, Evt (fun k => L k l (i : Int)) o ∧ match o with | .inl r => r = -1 | .inr t => 0 ≤ t ∧ t ≤ l ∧ ∀ j, i ≤ j → j < xs.length → sm (gt xs (j : Int)) := by
  intro d
  induction d with
  | zero =>
   intro i l hi h0 h1
   have e : i = xs.length := by omega
   subst e
   exact ⟨_, done l, h0, by omega, fun j h2 h3 => by omega⟩
  | succ d ih =>
   intro i l hi h0 h1
   obtain ⟨t, a1, a2, a3, a4⟩ := step i (by omega) l h0 h1
   by_cases c : t < 0
   ·exact ⟨_, a3 c, rfl⟩
   ·obtain ⟨o, b1, b2⟩ := ih (i + 1) t (by omega) (by omega) (by omega)
    refine ⟨o, a4 o (by omega) (by rw [w64 (by omega : i < xs.length) hn]; exact b1), ?_⟩
    cases o with
    | inl r => exact b2
    | inr u =>
     refine ⟨b2.1, by have := b2.2.1; omega, fun j h2 h3 => ?_⟩
     by_cases e : j = i
     ·subst e; exact a2 (by omega)
     ·exact b2.2.2 j (by omega) h3
 obtain ⟨o, b1, b2⟩ := key xs.length 0 l (by omega) h0 h1
 refine ⟨o, b1, ?_⟩
 cases o with
 | inl r => exact b2
 | inr u =>
  refine ⟨b2.1, b2.2.1, fun x hx => ?_⟩
  obtain ⟨j, hj, e⟩ := List.getElem_of_mem hx
  have := b2.2.2 j (by omega) hj
  rw [gt_eq (i := (j : Int)) (by simpa using hj)] at this
  simpa [e] using this

theorem Evt_t2 {β : Type} {f g nxt : Nat → Option (β ⊕ Unit)} {c : Bool} {v : Option β} (hc : c = true) (h : StE f nxt v) : StE (fun n => bif c then f n else g n) nxt v := by subst hc; exact h
theorem Lm_take {α : Type} {sm : α → Prop} {xs : List α} {n : Nat} (h : Lm sm xs) : Lm sm (xs.take n) := ⟨by have := h.1; rw [List.length_take]; omega, fun x hx => h.2 x (List.mem_of_mem_take hx)⟩
theorem found_any {β γ : Type} (l : List Nat) (p : Nat → Bool) (a : β) (r : β → γ) (c : γ) : onO (l.findSome? fun i => bif p i then some a else none) r c = bif l.any p then r a else c := by
 induction l with
 | nil => rfl
 | cons i l ih =>
  rw [List.findSome?_cons, List.any_cons]
  cases p i
  ·simpa using ih
  ·rfl
theorem idx_any (l : List Nat) (p : Nat → Bool) : decide (0 ≤ onO (l.findSome? fun i => bif p i then some (i : Int) else none) (fun r => r) (-1)) = l.any p := by
 induction l with
 | nil => rfl
 | cons i l ih =>
  rw [List.findSome?_cons, List.any_cons]
  cases p i
  ·simpa using ih
  ·simp [onO]
theorem rng1 {a lo hi : Int} : (decide (a < lo) || decide (hi < a)) = !(decide (lo ≤ a) && decide (a ≤ hi)) := by
 by_cases h1 : a < lo
 ·have : ¬ lo ≤ a := by omega
  simp [h1, this]
 ·have h2 : lo ≤ a := by omega
  by_cases h3 : hi < a
  ·have : ¬ a ≤ hi := by omega
   simp [h1, h2, h3, this]
  ·have : a ≤ hi := by omega
   simp [h1, h2, h3, this]
theorem at_any (l : List Nat) (p : Nat → Bool) (h : ∀ i ∈ l, i < 4611686018427387904) : decide (0 < onO (l.findSome? fun i => bif p i then some (wrap64 ((i : Int) + 1)) else none) (fun r => r) 0) = l.any p := by
 induction l with
 | nil => rfl
 | cons i l ih =>
  rw [List.findSome?_cons, List.any_cons]
  have hi := h i (by simp)
  have hl : ∀ j ∈ l, j < 4611686018427387904 := fun j hj => h j (List.mem_cons_of_mem _ hj)
  clear h
  cases p i
  ·exact ih hl
  ·have e : wrap64 ((i : Int) + 1) = (i : Int) + 1 := by unfold wrap64; omega
   rw [e]
   show decide (0 < (i : Int) + 1) = true
   exact decide_eq_true (by omega)
theorem fs_congr {β : Type} {l : List Nat} {f g : Nat → Option β} (h : ∀ i ∈ l, f i = g i) : l.findSome? f = l.findSome? g := by
 induction l with
 | nil => rfl
 | cons i l ih => rw [List.findSome?_cons, List.findSome?_cons, h i (by simp), ih fun j hj => h j (by simp [hj])]
theorem in_range {i n : Nat} (h : i ∈ List.range' 0 (n - 0)) : i < n := by
 have := List.mem_range'_1.1 h
 omega
theorem sEq_comm (a b : ByteArray) : sEq a b = sEq b a := by unfold sEq; exact BEq.comm
theorem bifb {b : Bool} : (bif b then true else false) = b := by cases b <;> rfl
theorem idx_found {n : Nat} {p : Nat → Bool} (h : 0 ≤ onO ((List.range' 0 (n - 0)).findSome? fun i => bif p i then some (i : Int) else none) (fun r => r) (-1)) : idxOk (onO ((List.range' 0 (n - 0)).findSome? fun i => bif p i then some (i : Int) else none) (fun r => r) (-1)) n = true := by
 have key : ∀ l : List Nat, (∀ i ∈ l, i < n) → 0 ≤ onO (l.findSome? fun i => bif p i then some (i : Int) else none) (fun r => r) (-1) → idxOk (onO (l.findSome? fun i => bif p i then some (i : Int) else none) (fun r => r) (-1)) n = true := by
  intro l
  induction l with
  | nil => intro _ h; exact absurd h (by show ¬ (0 : Int) ≤ -1; omega)
  | cons i l ih =>
   intro hl h
   rw [List.findSome?_cons] at h ⊢
   cases hp : p i
   ·rw [hp] at h; exact ih (fun j hj => hl j (List.mem_cons_of_mem _ hj)) h
   ·exact idx_ok (hl i (List.mem_cons_self ..))
 exact key _ (fun i hi => in_range hi) h
theorem cut_ok {i n : Nat} (h : i ≤ n) : cutOk (i : Int) n = true := by unfold cutOk; simp; omega
theorem len_eq {a b : Nat} (h : ((a : Int) != (b : Int)) = false) : a = b := by
 by_cases e : a = b
 ·exact e
 ·have : ((a : Int) != (b : Int)) = true := by simp; omega
  rw [this] at h; cases h

abbrev smSign (x : Sign) : Prop := tr x.fKey ∧ tr x.fId
abbrev smLedger (x : Ledger) : Prop := (Lm tr) x.fTexts ∧ (Lm smSign) x.fSigns
abbrev smRef (x : Ref) : Prop := tr x.fTx ∧ tr x.fAt
abbrev smRule (x : Rule) : Prop := (Lm tr) x.fKeys ∧ tr x.fNeed ∧ tr x.fAfter
abbrev smOut (x : Out) : Prop := tr x.fValue ∧ smRule x.fRule
abbrev smCoin (x : Coin) : Prop := smRef x.fRef ∧ smOut x.fOut ∧ tr x.fHeight ∧ tr x.fMined
abbrev smTx (x : Tx) : Prop := tr x.fKind ∧ tr x.fMember ∧ (Lm smRef) x.fIns ∧ (Lm smOut) x.fOuts
abbrev smIntResult (x : IntResult) : Prop := tr x.fCode ∧ tr x.fValue
theorem len_bif {α : Type} {c : Bool} {a b : List α} {n : Nat} (h : a.length ≤ n) (k : b.length ≤ n) : (bif c then a else b).length ≤ n := by cases c; exact k; exact h
theorem Evt.gatherL {σ : Type} {L : Nat → List σ → Int → Option (List σ)} (n : Nat) (hn : n ≤ 1048576) (st : List σ → Nat → List σ)
  (len : ∀ i, i < n → ∀ a, a.length ≤ i → (st a i).length ≤ i + 1)
  (step : ∀ i, i < n → ∀ a, a.length ≤ i → ∀ o, Evt (fun k => L k (st a i) (wrap64 ((i : Int) + 1))) o → Evt (fun k => L (k + 1) a (i : Int)) o)
  (done : ∀ (i : Nat) a, n ≤ i → Evt (fun k => L (k + 1) a (i : Int)) a) : Evt (fun k => L k [] 0) ((List.range' 0 (n - 0)).foldl st []) := by
 have key : ∀ d i (a : List σ), (i + d = n ∨ n ≤ i ∧ d = 0) → a.length ≤ i → Evt (fun k => L k a (i : Int)) ((List.range' i d).foldl st a) := by
  intro d
  induction d with
  | zero => intro i a hi _; exact Evt.s (done i a (by omega))
  | succ d ih =>
   intro i a hi ha
   rw [List.range'_succ, List.foldl_cons]
   refine Evt.s (step i (by omega) a ha _ ?_)
   rw [w64 (by omega : i < n) (by omega)]
   exact ih (i + 1) (st a i) (by omega) (len i (by omega) a ha)
 exact key (n - 0) 0 [] (by omega) (by simp)
theorem Lm_gath {α : Type} [Inhabited α] {sm : α → Prop} (x0 : List α) (h : Lm sm x0) (c : Nat → Bool) : Lm sm ((List.range' 0 (x0.length - 0)).foldl (fun ac (i : Nat) => bif c i then ac ++ ([gt x0 (i : Int)] : List α) else ac) ([] : List α)) := by
 have key : ∀ d i (a : List α), i + d = x0.length → (∀ x ∈ a, sm x) → a.length ≤ i → (∀ x ∈ (List.range' i d).foldl (fun ac (i : Nat) => bif c i then ac ++ ([gt x0 (i : Int)] : List α) else ac) a, sm x) ∧ ((List.range' i d).foldl (fun ac (i : Nat) => bif c i then ac ++ ([gt x0 (i : Int)] : List α) else ac) a).length ≤ x0.length := by
  intro d
  induction d with
  | zero => intro i a hi ha hl; exact ⟨ha, by show a.length ≤ _; omega⟩
  | succ d ih =>
   intro i a hi ha hl
   rw [List.range'_succ, List.foldl_cons]
   refine ih (i + 1) _ (by omega) ?_ ?_
   ·cases c i
    ·exact ha
    ·intro x hx
     rw [cond_true, List.mem_append] at hx
     rcases hx with hx | hx
     ·exact ha x hx
     ·rw [List.mem_singleton] at hx; subst hx; exact h.2 _ (gt_mem (by omega))
   ·cases c i
    ·show a.length ≤ i + 1; omega
    ·simp; omega
 obtain ⟨h1, h2⟩ := key x0.length 0 [] (by omega) (fun x hx => by cases hx) (by simp)
 exact ⟨Nat.le_trans h2 h.1, h1⟩
theorem Lm_sub {α : Type} {sm : α → Prop} {xs ys : List α} (h : Lm sm xs) (s : ys.Sublist xs) : Lm sm ys := ⟨Nat.le_trans s.length_le h.1, fun x hx => h.2 x (s.subset hx)⟩
theorem fs_all {β : Type} {p : Nat → Option β} {n : Nat} (h : (List.range' 0 (n - 0)).findSome? p = none) : ∀ i, i < n → p i = none := by
 intro i hi
 rw [List.findSome?_eq_none_iff] at h
 exact h i (by rw [List.mem_range']; exact ⟨i, by omega, by omega⟩)
theorem onO_zero {l : List Nat} {p : Nat → Option Int} {c : Int} (h : onO (l.findSome? p) (fun r => r) c = 0) (hp : ∀ i, p i ≠ some 0) : l.findSome? p = none ∧ c = 0 := by
 cases hf : l.findSome? p with
 | none => rw [hf] at h; exact ⟨rfl, h⟩
 | some r =>
  rw [hf] at h
  obtain ⟨i, _, hi⟩ := List.exists_of_findSome?_eq_some hf
  have : r = 0 := h
  subst this
  exact absurd hi (hp i)
theorem range_foldl {α β : Type} [Inhabited α] (xs : List α) (f : β → α → β) (a : β) : (List.range' 0 (xs.length - 0)).foldl (fun ac (i : Nat) => f ac (gt xs (i : Int))) a = xs.foldl f a := by
 have key : ∀ d i a, i + d = xs.length → (List.range' i d).foldl (fun ac (i : Nat) => f ac (gt xs (i : Int))) a = (xs.drop i).foldl f a := by
  intro d
  induction d with
  | zero => intro i a h; rw [List.drop_eq_nil_of_le (by omega)]; rfl
  | succ d ih =>
   intro i a h
   have hi : i < xs.length := by omega
   rw [List.range'_succ, List.foldl_cons, ih (i + 1) _ (by omega), List.drop_eq_getElem_cons hi, List.foldl_cons, gt_eq (by simpa using hi)]
   simp
 simpa using key xs.length 0 a (by omega)
theorem fold_map {α β : Type} (g : α → β) : ∀ (xs : List α) (ys : List β), xs.foldl (fun ac x => ac ++ [g x]) ys = ys ++ xs.map g
 | [], ys => by simp
 | x :: xs, ys => by rw [List.foldl_cons, fold_map g xs]; simp
theorem leB_of {a b : Nat} (h : a ≤ b) : leB a b = true := decide_eq_true h
theorem leB_mk2 {a b : Nat} (h : a ≤ b) : leB a b = true := decide_eq_true h
def mkB (l : List UInt8) : ByteArray := ⟨l.toArray⟩
theorem mkB_append (a b : List UInt8) : mkB a ++ mkB b = mkB (a ++ b) := by
 apply ByteArray.ext
 simp [mkB]
theorem mkB_size (l : List UInt8) : (mkB l).size = l.length := by simp [mkB, ByteArray.size]
def dgL (n : Int) : List UInt8 := Lib.decDigits n.toNat
theorem dgL_len (n : Int) : ∀ u : Nat, n.toNat = u → (dgL n).length ≤ u + 1 := by
 have key : ∀ u : Nat, (Lib.decDigits u).length ≤ u + 1 := by
  intro u
  induction u using Nat.strongRecOn with
  | _ u ih =>
   rw [Lib.decDigits]
   by_cases h : u < 10
   ·rw [dif_pos h]; simp
   ·rw [dif_neg h, List.length_append]
    have := ih (u / 10) (by omega)
    simp; omega
 intro u hu
 subst hu
 exact key _
theorem itoa_dg (n : Int) (h0 : 0 ≤ n) : (⟨(Lib.itoa n).toArray⟩ : ByteArray) = mkB (dgL n) := by
 unfold Lib.itoa
 rw [if_neg (by omega)]; rfl
theorem leB_mk {a b : Nat} (h : a + b ≤ 1000000) : leB (a + b) 9223372036854775807 = true := decide_eq_true (by omega)
theorem dg3 (n : Int) (h0 : 0 ≤ n) (h1 : n ≤ 999) : (dgL n).length ≤ 1000 := by
 have := dgL_len n n.toNat rfl
 omega
theorem join3 (xs : List Int) (h1 : 1 ≤ xs.length) (h3 : xs.length ≤ 3) (hk : ∀ x ∈ xs, 1 ≤ x ∧ x ≤ 999) : (Lib.join (xs.map dgL) [44]).length ≤ 3100 := by
 have hd : ∀ x ∈ xs, (dgL x).length ≤ 1000 := fun x hx => dg3 x (by have := hk x hx; omega) (hk x hx).2
 match xs, h1, h3, hd with
 | [a], _, _, hd => have := hd a (by simp); simp [Lib.join_cons, Lib.joinTail]; omega
 | [a, b], _, _, hd => have := hd a (by simp); have := hd b (by simp); simp [Lib.join_cons, Lib.joinTail]; omega
 | [a, b, c], _, _, hd => have := hd a (by simp); have := hd b (by simp); have := hd c (by simp); simp [Lib.join_cons, Lib.joinTail]; omega
 | [], h, _, _ => simp at h
 | _ :: _ :: _ :: _ :: _, _, h, _ => simp at h
theorem lens_le (m : Nat) : ∀ xs : List (List UInt8), (∀ x ∈ xs, x.length ≤ m) → Lib.lens xs ≤ m * xs.length
 | [], _ => by simp [Lib.lens]
 | x :: r, h => by
  have h1 := h x (by simp)
  have h2 := lens_le m r (fun y hy => h y (by simp [hy]))
  have e : m * (r.length + 1) = m * r.length + m := Nat.mul_succ ..
  have e2 : Lib.lens (x :: r) = x.length + Lib.lens r := by simp [Lib.lens]
  rw [e2, List.length_cons, e]; omega
theorem join_le {m n : Nat} {xs : List (List UInt8)} {sep : List UInt8} (h : ∀ x ∈ xs, x.length ≤ m) (hn : xs.length ≤ n) : (Lib.join xs sep).length ≤ m * n + sep.length * n := by
 cases xs with
 | nil => simp [Lib.join_nil]
 | cons x r =>
  have h1 := lens_le m (x :: r) h
  rw [List.length_cons] at h1 hn
  have a : m * (r.length + 1) ≤ m * n := Nat.mul_le_mul_left _ hn
  have b : sep.length * r.length ≤ sep.length * n := Nat.mul_le_mul_left _ (by omega)
  rw [Lib.join_length]; omega
def isDg (b : UInt8) : Prop := 48 ≤ b.toNat ∧ b.toNat ≤ 57
def valL (l : List UInt8) : Nat := l.foldl (fun v b => v * 10 + (b.toNat - 48)) 0
theorem valL_snoc (l : List UInt8) (b : UInt8) : valL (l ++ [b]) = valL l * 10 + (b.toNat - 48) := by simp [valL]
theorem u8dig {d : Nat} (h : d < 10) : (UInt8.ofNat (48 + d)).toNat = 48 + d := by
 rw [UInt8.toNat_ofNat']; omega
theorem dec_is (u : Nat) : (∀ b ∈ Lib.decDigits u, isDg b) ∧ valL (Lib.decDigits u) = u ∧ 1 ≤ (Lib.decDigits u).length ∧ (1 < (Lib.decDigits u).length → (Lib.decDigits u).head? ≠ some 48) ∧ (1 ≤ u → (Lib.decDigits u).head? ≠ some 48) := by
 induction u using Nat.strongRecOn with
 | _ u ih =>
  by_cases h : u < 10
  ·rw [Lib.decDigits_one h]
   refine ⟨?_, ?_, by simp, by simp, ?_⟩
   ·intro b hb
    simp only [List.mem_cons, List.not_mem_nil, or_false] at hb
    subst hb
    unfold isDg; rw [u8dig h]; omega
   ·simp only [valL, List.foldl_cons, List.foldl_nil]; rw [u8dig h]; omega
   ·intro hu e
    simp only [List.head?_cons, Option.some.injEq] at e
    have := congrArg UInt8.toNat e
    rw [u8dig h] at this
    have h48 : (48 : UInt8).toNat = 48 := rfl
    omega
  ·obtain ⟨i1, i2, i3, i4, i5⟩ := ih (u / 10) (by omega)
   rw [Lib.decDigits.eq_1 u, dif_neg h]
   have hd : u % 10 < 10 := by omega
   have hh : (Lib.decDigits (u / 10) ++ [UInt8.ofNat (48 + u % 10)]).head? = (Lib.decDigits (u / 10)).head? := by
    cases hc : Lib.decDigits (u / 10) with
    | nil => rw [hc] at i3; simp at i3
    | cons x r => rfl
   refine ⟨?_, ?_, by simp, fun _ => ?_, fun _ => ?_⟩
   ·intro b hb
    rcases List.mem_append.1 hb with hb | hb
    ·exact i1 b hb
    ·simp only [List.mem_cons, List.not_mem_nil, or_false] at hb
     subst hb
     unfold isDg; rw [u8dig hd]; omega
   ·rw [valL_snoc, i2, u8dig hd]; omega
   ·rw [hh]; exact i5 (by omega)
   ·rw [hh]; exact i5 (by omega)
theorem dec_short {u : Nat} : (u < 10 → (Lib.decDigits u).length = 1) ∧ (u < 100 → (Lib.decDigits u).length ≤ 2) ∧ (u < 1000 → (Lib.decDigits u).length ≤ 3) := by
 have k1 : ∀ u, u < 10 → (Lib.decDigits u).length = 1 := fun u h => by rw [Lib.decDigits_one h]; rfl
 have k2 : ∀ u, u < 100 → (Lib.decDigits u).length ≤ 2 := fun u h => by
  by_cases c : u < 10
  ·rw [k1 u c]; omega
  ·rw [Lib.decDigits, dif_neg c, List.length_append, k1 (u / 10) (by omega)]; simp
 refine ⟨k1 u, k2 u, fun h => ?_⟩
 by_cases c : u < 10
 ·rw [k1 u c]; omega
 ·rw [Lib.decDigits, dif_neg c, List.length_append]
  have := k2 (u / 10) (by omega)
  simp; omega
instance : DecidablePred isDg := fun b => inferInstanceAs (Decidable (48 ≤ b.toNat ∧ b.toNat ≤ 57))
theorem dg_no {c : UInt8} (hc : ¬ isDg c) (n : Int) : c ∉ dgL n := fun h => hc ((dec_is n.toNat).1 c h)
theorem dg_l2 {n : Int} (h : n ≤ 99) : (dgL n).length ≤ 2 := dec_short.2.1 (by omega)
theorem dg_l1 {n : Int} (h : n ≤ 9) : (dgL n).length ≤ 1 := by have := (dec_short (u := n.toNat)).1 (by omega); unfold dgL; omega
theorem dg_l3 {n : Int} (h : n ≤ 999) : (dgL n).length ≤ 3 := dec_short.2.2 (by omega)
theorem mem_join {b : UInt8} {sep : List UInt8} : ∀ {ps : List (List UInt8)}, b ∈ Lib.join ps sep → b ∈ sep ∨ ∃ p ∈ ps, b ∈ p
 | [], h => by simp [Lib.join_nil] at h
 | x :: r, h => by
  rw [Lib.join_cons] at h
  rcases List.mem_append.1 h with h | h
  ·exact .inr ⟨x, by simp, h⟩
  ·unfold Lib.joinTail at h
   rw [List.mem_flatten] at h
   obtain ⟨q, hq, hb⟩ := h
   obtain ⟨p, hp, rfl⟩ := List.mem_map.1 hq
   rcases List.mem_append.1 hb with hb | hb
   ·exact .inl hb
   ·exact .inr ⟨p, by simp [hp], hb⟩
theorem nodg {c : UInt8} (h : c = 32 ∨ c = 43 ∨ c = 44 ∨ c = 45 ∨ c = 58 ∨ c = 61 ∨ c = 95 := by decide) : ¬ isDg c := by
 rcases h with rfl | rfl | rfl | rfl | rfl | rfl | rfl <;> decide
theorem dec_len : ∀ (k u : Nat), u < 10 ^ (k + 1) → (Lib.decDigits u).length ≤ k + 1
 | 0, u, h => by rw [Lib.decDigits_one (by simpa using h)]; simp
 | k + 1, u, h => by
  by_cases c : u < 10
  ·rw [Lib.decDigits_one c]; simp
  ·have e : 10 ^ (k + 1 + 1) = 10 ^ (k + 1) * 10 := Nat.pow_succ ..
   rw [e] at h
   have ih := dec_len k (u / 10) (by omega)
   rw [Lib.decDigits, dif_neg c, List.length_append]
   simp; omega
theorem dg_l7 {n : Int} (h : n ≤ 9999999) : (dgL n).length ≤ 7 := dec_len 6 _ (by show n.toNat < 10000000; omega)
def spec_l1At_v (x0 : List ByteArray) (x1 : ByteArray) : Int := (onO ((List.range' 0 (x0.length - 0)).findSome? (fun (i0 : Nat) => (bif (sEq (gt x0 (i0 : Int)) x1) then (some (wrap64 ((i0 : Int) + 1))) else none))) (fun r => r) 0)
theorem spec_l1At_ev (x0 : List ByteArray) (x1 : ByteArray) (h_x0 : (Lm tr) x0) : Evt (fun k => spec_l1At.f k x0 x1) (spec_l1At_v x0 x1) :=
 (Evt.loop (r' := fun r => r) (Evt.srch (L := (fun k i => spec_l1At.l0 x0 x1 k i)) 0 x0.length (by have := h_x0; first | (have := this.1; omega) | omega) (fun (i0 : Nat) => (bif (sEq (gt x0 (i0 : Int)) x1) then (some (wrap64 ((i0 : Int) + 1))) else none)) (fun i0 hs2 hi2 => by
 have hbn : x0.length ≤ 9223372036854775807 := (by have := h_x0; first | (have := this.1; omega) | omega)
 simp only [spec_l1At.l0_s]
 exact Evt_t2 (int_lt hi2) (StE.chk (by first | exact idx_ok (by omega) | exact idx_ok (by have hq := len_eq (by assumption); omega) | exact idx_found (show (0 : Int) ≤ (i0 : Int) by simp_all) | exact cut_ok (by omega) | exact or_ok (idx_ok (by omega)) | (refine or1 (fun hz => pre_ok (by simp at hz; omega) (by omega) (by omega))) | exact pre_ok (by omega) (by omega) (by omega) | (simp_all [idxOk, cutOk, leB]; done) | (simp_all [idxOk, cutOk, leB]; omega) | (simp [idxOk, cutOk, leB] at *; omega) | (have hf0 := h_x0.1; simp only [leB, decide_eq_true_eq, List.length_append, List.length_cons, List.length_nil]; omega)) (StE.ifh (fun hc1 => (StE.ret _)) (fun hc1 => StE.next)))) (fun j hj => by
 simp only [spec_l1At.l0_s]
 exact Evt.f (ge_lt hj) (Evt.self _))) (fun _ => rfl) (Evt.self _))
def spec_l1In_v (x0 : Int) (x1 : Int) (x2 : Int) : Bool := ((decide (x1 ≤ x0)) && (decide (x0 ≤ x2)))
theorem spec_l1In_ev (x0 : Int) (x1 : Int) (x2 : Int)  : Evt (fun k => spec_l1In.f k x0 x1 x2) (spec_l1In_v x0 x1 x2) :=
 (Evt.self _)
def spec_l1Key_v (x0 : Int) : Bool := (spec_l1In_v x0 1 999)
theorem spec_l1Key_ev (x0 : Int)  : Evt (fun k => spec_l1Key.f k x0) (spec_l1Key_v x0) :=
 (Evt.bind (spec_l1In_ev x0 1 999) (Evt.self _))
def spec_l1Signed_v (x0 : List Sign) (x1 : Sign) : Bool := (onO ((List.range' 0 (x0.length - 0)).findSome? (fun (i0 : Nat) => (bif ((((gt x0 (i0 : Int)).fKey) == x1.fKey) && (((gt x0 (i0 : Int)).fId) == x1.fId)) then (some true) else none))) (fun r => r) false)
theorem spec_l1Signed_ev (x0 : List Sign) (x1 : Sign) (h_x0 : (Lm smSign) x0) : Evt (fun k => spec_l1Signed.f k x0 x1) (spec_l1Signed_v x0 x1) :=
 (Evt.loop (r' := fun r => r) (Evt.srch (L := (fun k i => spec_l1Signed.l0 x0 x1 k i)) 0 x0.length (by have := h_x0; first | (have := this.1; omega) | omega) (fun (i0 : Nat) => (bif ((((gt x0 (i0 : Int)).fKey) == x1.fKey) && (((gt x0 (i0 : Int)).fId) == x1.fId)) then (some true) else none)) (fun i0 hs2 hi2 => by
 have hbn : x0.length ≤ 9223372036854775807 := (by have := h_x0; first | (have := this.1; omega) | omega)
 simp only [spec_l1Signed.l0_s]
 exact Evt_t2 (int_lt hi2) (StE.chk (by first | exact idx_ok (by omega) | exact idx_ok (by have hq := len_eq (by assumption); omega) | exact idx_found (show (0 : Int) ≤ (i0 : Int) by simp_all) | exact cut_ok (by omega) | exact or_ok (idx_ok (by omega)) | (refine or1 (fun hz => pre_ok (by simp at hz; omega) (by omega) (by omega))) | exact pre_ok (by omega) (by omega) (by omega) | (simp_all [idxOk, cutOk, leB]; done) | (simp_all [idxOk, cutOk, leB]; omega) | (simp [idxOk, cutOk, leB] at *; omega) | (have hf0 := h_x0.1; simp only [leB, decide_eq_true_eq, List.length_append, List.length_cons, List.length_nil]; omega)) (StE.ifh (fun hc1 => (StE.ret _)) (fun hc1 => StE.next)))) (fun j hj => by
 simp only [spec_l1Signed.l0_s]
 exact Evt.f (ge_lt hj) (Evt.self _))) (fun _ => rfl) (Evt.self _))
def spec_l1Fault_v (x0 : Ledger) : Int := (bif ((decide (60 < (x0.fTexts.length : Int))) || (decide (120 < (x0.fSigns.length : Int)))) then 2 else (onO ((List.range' 0 (x0.fTexts.length - 0)).findSome? (fun (i0 : Nat) => (bif ((decide (((gt x0.fTexts (i0 : Int)).size : Int) < 1)) || (decide (300 < ((gt x0.fTexts (i0 : Int)).size : Int)))) then (some 2) else (bif (decide (0 < (spec_l1At_v (x0.fTexts.take ((i0 : Int)).toNat) (gt x0.fTexts (i0 : Int))))) then (some 7) else none)))) (fun r => r) (onO ((List.range' 0 (x0.fSigns.length - 0)).findSome? (fun (i3 : Nat) => (bif ((!(spec_l1Key_v ((gt x0.fSigns (i3 : Int)).fKey))) || (!(bif (!(!(spec_l1Key_v ((gt x0.fSigns (i3 : Int)).fKey)))) then (spec_l1In_v ((gt x0.fSigns (i3 : Int)).fId) 1 (x0.fTexts.length : Int)) else default))) then (some 3) else (bif (spec_l1Signed_v (x0.fSigns.take ((i3 : Int)).toNat) (gt x0.fSigns (i3 : Int))) then (some 7) else none)))) (fun r => r) 0)))
theorem spec_l1Fault_ev (x0 : Ledger) (h_x0 : smLedger x0) : Evt (fun k => spec_l1Fault.f k x0) (spec_l1Fault_v x0) :=
 (Evt.ifh (fun hc6 => (Evt.self _)) (fun hc6 => (Evt.loop (r' := fun r => r) (Evt.srch (L := (fun k i => spec_l1Fault.l0 x0 k i)) 0 x0.fTexts.length (by have := h_x0.1; first | (have := this.1; omega) | omega) (fun (i0 : Nat) => (bif ((decide (((gt x0.fTexts (i0 : Int)).size : Int) < 1)) || (decide (300 < ((gt x0.fTexts (i0 : Int)).size : Int)))) then (some 2) else (bif (decide (0 < (spec_l1At_v (x0.fTexts.take ((i0 : Int)).toNat) (gt x0.fTexts (i0 : Int))))) then (some 7) else none))) (fun i0 hs3 hi3 => by
 have hbn : x0.fTexts.length ≤ 9223372036854775807 := (by have := h_x0.1; first | (have := this.1; omega) | omega)
 simp only [spec_l1Fault.l0_s]
 exact Evt_t2 (int_lt hi3) (StE.chk (by first | exact idx_ok (by omega) | exact idx_ok (by have hq := len_eq (by assumption); omega) | exact idx_found (show (0 : Int) ≤ (i0 : Int) by simp_all) | exact cut_ok (by omega) | exact or_ok (idx_ok (by omega)) | (refine or1 (fun hz => pre_ok (by simp at hz; omega) (by omega) (by omega))) | exact pre_ok (by omega) (by omega) (by omega) | (simp_all [idxOk, cutOk, leB]; done) | (simp_all [idxOk, cutOk, leB]; omega) | (simp [idxOk, cutOk, leB] at *; omega) | (have hf0 := h_x0.1.1; have hf1 := h_x0.2.1; simp only [leB, decide_eq_true_eq, List.length_append, List.length_cons, List.length_nil]; omega)) (StE.chk (by first | exact idx_ok (by omega) | exact idx_ok (by have hq := len_eq (by assumption); omega) | exact idx_found (by simp_all) | exact cut_ok (by omega) | exact or_ok (idx_ok (by omega)) | (refine or1 (fun hz => pre_ok (by simp at hz; omega) (by omega) (by omega))) | exact pre_ok (by omega) (by omega) (by omega) | (simp_all [idxOk, cutOk, leB]; done) | (simp_all [idxOk, cutOk, leB]; omega) | (simp [idxOk, cutOk, leB] at *; omega) | (have hf0 := h_x0.1.1; have hf1 := h_x0.2.1; simp only [leB, decide_eq_true_eq, List.length_append, List.length_cons, List.length_nil]; omega)) (StE.ifh (fun hc2 => (StE.ret _)) (fun hc2 => (StE.chk (by first | exact idx_ok (by omega) | exact idx_ok (by have hq := len_eq (by assumption); omega) | exact idx_found (by simp_all) | exact cut_ok (by omega) | exact or_ok (idx_ok (by omega)) | (refine or1 (fun hz => pre_ok (by simp at hz; omega) (by omega) (by omega))) | exact pre_ok (by omega) (by omega) (by omega) | (simp_all [idxOk, cutOk, leB]; done) | (simp_all [idxOk, cutOk, leB]; omega) | (simp [idxOk, cutOk, leB] at *; omega) | (have hf0 := h_x0.1.1; have hf1 := h_x0.2.1; simp only [leB, decide_eq_true_eq, List.length_append, List.length_cons, List.length_nil]; omega)) (StE.chk (by first | exact idx_ok (by omega) | exact idx_ok (by have hq := len_eq (by assumption); omega) | exact idx_found (show (0 : Int) ≤ (i0 : Int) by simp_all) | exact cut_ok (by omega) | exact or_ok (idx_ok (by omega)) | (refine or1 (fun hz => pre_ok (by simp at hz; omega) (by omega) (by omega))) | exact pre_ok (by omega) (by omega) (by omega) | (simp_all [idxOk, cutOk, leB]; done) | (simp_all [idxOk, cutOk, leB]; omega) | (simp [idxOk, cutOk, leB] at *; omega) | (have hf0 := h_x0.1.1; have hf1 := h_x0.2.1; simp only [leB, decide_eq_true_eq, List.length_append, List.length_cons, List.length_nil]; omega)) (StE.bind (spec_l1At_ev (x0.fTexts.take ((i0 : Int)).toNat) (gt x0.fTexts (i0 : Int)) ((Lm_take h_x0.1))) (StE.ifh (fun hc1 => (StE.ret _)) (fun hc1 => StE.next)))))))))) (fun j hj => by
 simp only [spec_l1Fault.l0_s]
 exact Evt.f (ge_lt hj) (Evt.self _))) (fun _ => rfl) (Evt.loop (r' := fun r => r) (Evt.srch (L := (fun k i => spec_l1Fault.l1 x0 k i)) 0 x0.fSigns.length (by have := h_x0.2; first | (have := this.1; omega) | omega) (fun (i3 : Nat) => (bif ((!(spec_l1Key_v ((gt x0.fSigns (i3 : Int)).fKey))) || (!(bif (!(!(spec_l1Key_v ((gt x0.fSigns (i3 : Int)).fKey)))) then (spec_l1In_v ((gt x0.fSigns (i3 : Int)).fId) 1 (x0.fTexts.length : Int)) else default))) then (some 3) else (bif (spec_l1Signed_v (x0.fSigns.take ((i3 : Int)).toNat) (gt x0.fSigns (i3 : Int))) then (some 7) else none))) (fun i3 hs6 hi6 => by
 have hbn : x0.fSigns.length ≤ 9223372036854775807 := (by have := h_x0.2; first | (have := this.1; omega) | omega)
 simp only [spec_l1Fault.l1_s]
 exact Evt_t2 (int_lt hi6) (StE.chk (by first | exact idx_ok (by omega) | exact idx_ok (by have hq := len_eq (by assumption); omega) | exact idx_found (show (0 : Int) ≤ (i3 : Int) by simp_all) | exact cut_ok (by omega) | exact or_ok (idx_ok (by omega)) | (refine or1 (fun hz => pre_ok (by simp at hz; omega) (by omega) (by omega))) | exact pre_ok (by omega) (by omega) (by omega) | (simp_all [idxOk, cutOk, leB]; done) | (simp_all [idxOk, cutOk, leB]; omega) | (simp [idxOk, cutOk, leB] at *; omega) | (have hf0 := h_x0.1.1; have hf1 := h_x0.2.1; simp only [leB, decide_eq_true_eq, List.length_append, List.length_cons, List.length_nil]; omega)) (StE.bind (spec_l1Key_ev ((gt x0.fSigns (i3 : Int)).fKey)) (StE.chk (by first | exact idx_ok (by omega) | exact idx_ok (by have hq := len_eq (by assumption); omega) | exact idx_found (by simp_all) | exact cut_ok (by omega) | exact or_ok (idx_ok (by omega)) | (refine or1 (fun hz => pre_ok (by simp at hz; omega) (by omega) (by omega))) | exact pre_ok (by omega) (by omega) (by omega) | (simp_all [idxOk, cutOk, leB]; done) | (simp_all [idxOk, cutOk, leB]; omega) | (simp [idxOk, cutOk, leB] at *; omega) | (have hf0 := h_x0.1.1; have hf1 := h_x0.2.1; simp only [leB, decide_eq_true_eq, List.length_append, List.length_cons, List.length_nil]; omega)) (StE.bind (Evt.ifh (fun _ => (spec_l1In_ev ((gt x0.fSigns (i3 : Int)).fId) 1 (x0.fTexts.length : Int))) (fun _ => Evt.self _)) (StE.ifh (fun hc5 => (StE.ret _)) (fun hc5 => (StE.chk (by first | exact idx_ok (by omega) | exact idx_ok (by have hq := len_eq (by assumption); omega) | exact idx_found (by simp_all) | exact cut_ok (by omega) | exact or_ok (idx_ok (by omega)) | (refine or1 (fun hz => pre_ok (by simp at hz; omega) (by omega) (by omega))) | exact pre_ok (by omega) (by omega) (by omega) | (simp_all [idxOk, cutOk, leB]; done) | (simp_all [idxOk, cutOk, leB]; omega) | (simp [idxOk, cutOk, leB] at *; omega) | (have hf0 := h_x0.1.1; have hf1 := h_x0.2.1; simp only [leB, decide_eq_true_eq, List.length_append, List.length_cons, List.length_nil]; omega)) (StE.chk (by first | exact idx_ok (by omega) | exact idx_ok (by have hq := len_eq (by assumption); omega) | exact idx_found (show (0 : Int) ≤ (i3 : Int) by simp_all) | exact cut_ok (by omega) | exact or_ok (idx_ok (by omega)) | (refine or1 (fun hz => pre_ok (by simp at hz; omega) (by omega) (by omega))) | exact pre_ok (by omega) (by omega) (by omega) | (simp_all [idxOk, cutOk, leB]; done) | (simp_all [idxOk, cutOk, leB]; omega) | (simp [idxOk, cutOk, leB] at *; omega) | (have hf0 := h_x0.1.1; have hf1 := h_x0.2.1; simp only [leB, decide_eq_true_eq, List.length_append, List.length_cons, List.length_nil]; omega)) (StE.bind (spec_l1Signed_ev (x0.fSigns.take ((i3 : Int)).toNat) (gt x0.fSigns (i3 : Int)) ((Lm_take h_x0.2))) (StE.ifh (fun hc4 => (StE.ret _)) (fun hc4 => StE.next)))))))))))) (fun j hj => by
 simp only [spec_l1Fault.l1_s]
 exact Evt.f (ge_lt hj) (Evt.self _))) (fun _ => rfl) (Evt.self _)))))
def spec_l3Ref_v (x0 : Ref) : Bool := ((spec_l1In_v x0.fTx 1 60) && (bif (spec_l1In_v x0.fTx 1 60) then (spec_l1In_v x0.fAt 0 3) else default))
theorem spec_l3Ref_ev (x0 : Ref)  : Evt (fun k => spec_l3Ref.f k x0) (spec_l3Ref_v x0) :=
 (Evt.bind (spec_l1In_ev x0.fTx 1 60) (Evt.bind (Evt.ifh (fun _ => (spec_l1In_ev x0.fAt 0 3)) (fun _ => Evt.self _)) (Evt.self _)))
def spec_l2Height_v (x0 : Int) : Bool := (spec_l1In_v x0 0 999)
theorem spec_l2Height_ev (x0 : Int)  : Evt (fun k => spec_l2Height.f k x0) (spec_l2Height_v x0) :=
 (Evt.bind (spec_l1In_ev x0 0 999) (Evt.self _))
def spec_l2Fault_v (x0 : Rule) : Int := (bif !(spec_l1In_v (x0.fKeys.length : Int) 1 3) then 2 else (onO ((List.range' 0 (x0.fKeys.length - 0)).findSome? (fun (i0 : Nat) => (bif !(spec_l1Key_v (gt x0.fKeys (i0 : Int))) then (some 3) else none))) (fun r => r) (bif ((!(spec_l1In_v x0.fNeed 1 (x0.fKeys.length : Int))) || (!(bif (!(!(spec_l1In_v x0.fNeed 1 (x0.fKeys.length : Int)))) then (spec_l2Height_v x0.fAfter) else default))) then 3 else (onO ((List.range' 1 (x0.fKeys.length - 1)).findSome? (fun (i2 : Nat) => (bif (decide ((gt x0.fKeys (i2 : Int)) ≤ (gt x0.fKeys (wrap64 ((i2 : Int) - 1))))) then (some 1) else none))) (fun r => r) 0))))
theorem spec_l2Fault_ev (x0 : Rule) (h_x0 : smRule x0) : Evt (fun k => spec_l2Fault.f k x0) (spec_l2Fault_v x0) :=
 (Evt.bind (spec_l1In_ev (x0.fKeys.length : Int) 1 3) (Evt.ifh (fun hc5 => (Evt.self _)) (fun hc5 => (Evt.loop (r' := fun r => r) (Evt.srch (L := (fun k i => spec_l2Fault.l0 x0 k i)) 0 x0.fKeys.length (by have := h_x0.1; first | (have := this.1; omega) | omega) (fun (i0 : Nat) => (bif !(spec_l1Key_v (gt x0.fKeys (i0 : Int))) then (some 3) else none)) (fun i0 hs2 hi2 => by
 have hbn : x0.fKeys.length ≤ 9223372036854775807 := (by have := h_x0.1; first | (have := this.1; omega) | omega)
 simp only [spec_l2Fault.l0_s]
 exact Evt_t2 (int_lt hi2) (StE.chk (by first | exact idx_ok (by omega) | exact idx_ok (by have hq := len_eq (by assumption); omega) | exact idx_found (show (0 : Int) ≤ (i0 : Int) by simp_all) | exact cut_ok (by omega) | exact or_ok (idx_ok (by omega)) | (refine or1 (fun hz => pre_ok (by simp at hz; omega) (by omega) (by omega))) | exact pre_ok (by omega) (by omega) (by omega) | (simp_all [idxOk, cutOk, leB]; done) | (simp_all [idxOk, cutOk, leB]; omega) | (simp [idxOk, cutOk, leB] at *; omega) | (have hf0 := h_x0.1.1; simp only [leB, decide_eq_true_eq, List.length_append, List.length_cons, List.length_nil]; omega)) (StE.bind (spec_l1Key_ev (gt x0.fKeys (i0 : Int))) (StE.ifh (fun hc1 => (StE.ret _)) (fun hc1 => StE.next))))) (fun j hj => by
 simp only [spec_l2Fault.l0_s]
 exact Evt.f (ge_lt hj) (Evt.self _))) (fun _ => rfl) (Evt.bind (spec_l1In_ev x0.fNeed 1 (x0.fKeys.length : Int)) (Evt.bind (Evt.ifh (fun _ => (spec_l2Height_ev x0.fAfter)) (fun _ => Evt.self _)) (Evt.ifh (fun hc4 => (Evt.self _)) (fun hc4 => (Evt.loop (r' := fun r => r) (Evt.srch (L := (fun k i => spec_l2Fault.l1 x0 k i)) 1 x0.fKeys.length (by have := h_x0.1; first | (have := this.1; omega) | omega) (fun (i2 : Nat) => (bif (decide ((gt x0.fKeys (i2 : Int)) ≤ (gt x0.fKeys (wrap64 ((i2 : Int) - 1))))) then (some 1) else none)) (fun i2 hs4 hi4 => by
 have hbn : x0.fKeys.length ≤ 9223372036854775807 := (by have := h_x0.1; first | (have := this.1; omega) | omega)
 simp only [spec_l2Fault.l1_s]
 exact Evt_t2 (int_lt hi4) (StE.chk (by first | exact idx_ok (by omega) | exact idx_ok (by have hq := len_eq (by assumption); omega) | exact idx_found (show (0 : Int) ≤ (i2 : Int) by simp_all) | exact cut_ok (by omega) | exact or_ok (idx_ok (by omega)) | (refine or1 (fun hz => pre_ok (by simp at hz; omega) (by omega) (by omega))) | exact pre_ok (by omega) (by omega) (by omega) | (simp_all [idxOk, cutOk, leB]; done) | (simp_all [idxOk, cutOk, leB]; omega) | (simp [idxOk, cutOk, leB] at *; omega) | (have hf0 := h_x0.1.1; simp only [leB, decide_eq_true_eq, List.length_append, List.length_cons, List.length_nil]; omega)) (StE.chk (by first | exact idx_ok (by omega) | exact idx_ok (by have hq := len_eq (by assumption); omega) | exact idx_found (show (0 : Int) ≤ (wrap64 ((i2 : Int) - 1)) by simp_all) | exact cut_ok (by omega) | exact or_ok (idx_ok (by omega)) | (refine or1 (fun hz => pre_ok (by simp at hz; omega) (by omega) (by omega))) | exact pre_ok (by omega) (by omega) (by omega) | (simp_all [idxOk, cutOk, leB]; done) | (simp_all [idxOk, cutOk, leB]; omega) | (simp [idxOk, cutOk, leB] at *; omega) | (have hf0 := h_x0.1.1; simp only [leB, decide_eq_true_eq, List.length_append, List.length_cons, List.length_nil]; omega)) (StE.ifh (fun hc3 => (StE.ret _)) (fun hc3 => StE.next))))) (fun j hj => by
 simp only [spec_l2Fault.l1_s]
 exact Evt.f (ge_lt hj) (Evt.self _))) (fun _ => rfl) (Evt.self _))))))))))
structure RuleOK (r : Rule) : Prop where
 n1 : 1 ≤ r.fKeys.length
 n3 : r.fKeys.length ≤ 3
 key : ∀ x ∈ r.fKeys, 1 ≤ x ∧ x ≤ 999
 need : 1 ≤ r.fNeed ∧ r.fNeed ≤ 3
 after : 0 ≤ r.fAfter ∧ r.fAfter ≤ 999
theorem rule_ok (x0 : Rule) (h : (spec_l2Fault_v x0 != 0) = false) : RuleOK x0 := by
 have h0 : spec_l2Fault_v x0 = 0 := by simpa using h
 unfold spec_l2Fault_v at h0
 cases ha : spec_l1In_v (x0.fKeys.length : Int) 1 3
 ·rw [ha] at h0; exact absurd (show (2 : Int) = 0 from h0) (by decide)
 ·rw [ha] at h0
  have h1 : onO ((List.range' 0 (x0.fKeys.length - 0)).findSome? (fun (i0 : Nat) => (bif !(spec_l1Key_v (gt x0.fKeys (i0 : Int))) then (some (3 : Int)) else none))) (fun r => r) (bif ((!(spec_l1In_v x0.fNeed 1 (x0.fKeys.length : Int))) || (!(bif (!(!(spec_l1In_v x0.fNeed 1 (x0.fKeys.length : Int)))) then (spec_l2Height_v x0.fAfter) else default))) then 3 else (onO ((List.range' 1 (x0.fKeys.length - 1)).findSome? (fun (i2 : Nat) => (bif (decide ((gt x0.fKeys (i2 : Int)) ≤ (gt x0.fKeys (wrap64 ((i2 : Int) - 1))))) then (some 1) else none))) (fun r => r) 0)) = 0 := h0
  obtain ⟨h2, h3⟩ := onO_zero h1 (fun i => by cases spec_l1Key_v (gt x0.fKeys (i : Int)) <;> simp)
  have hk := fs_all h2
  simp only [spec_l1In_v, Bool.and_eq_true, decide_eq_true_eq] at ha
  cases hb : spec_l1In_v x0.fNeed 1 (x0.fKeys.length : Int)
  ·rw [hb] at h3; exact absurd (show (3 : Int) = 0 from h3) (by decide)
  ·cases hc : spec_l2Height_v x0.fAfter
   ·rw [hb, hc] at h3; exact absurd (show (3 : Int) = 0 from h3) (by decide)
   ·simp only [spec_l2Height_v, spec_l1In_v, Bool.and_eq_true, decide_eq_true_eq] at hb hc
    refine ⟨by omega, by omega, fun x hx => ?_, by omega, hc⟩
    obtain ⟨i, hi, rfl⟩ := List.getElem_of_mem hx
    have h4 := hk i hi
    rw [gt_eq (by simpa using hi)] at h4
    cases h5 : spec_l1Key_v x0.fKeys[i]
    ·simp only [Int.toNat_natCast] at h4; rw [h5] at h4; cases h4
    ·simp only [spec_l1Key_v, spec_l1In_v, Bool.and_eq_true, decide_eq_true_eq] at h5
     exact h5
def ruleL (r : Rule) (bl : List UInt8) : List UInt8 := dgL r.fNeed ++ bl ++ [111, 102] ++ bl ++ Lib.join (r.fKeys.map dgL) [44] ++ (bif r.fAfter != 0 then bl ++ [97, 102, 116, 101, 114] ++ bl ++ dgL r.fAfter else [])
theorem ruleL_len (r : Rule) (c : UInt8) (hr : RuleOK r) : (ruleL r [c]).length ≤ 50 := by
 have h1 := dg_l3 (n := r.fNeed) (by have := hr.need; omega)
 have h2 := dg_l3 (n := r.fAfter) (by have := hr.after; omega)
 have hk := join_le (m := 3) (n := 3) (sep := [44]) (xs := r.fKeys.map dgL) (by
  intro x hx
  obtain ⟨y, hy, rfl⟩ := List.mem_map.1 hx
  have := hr.key y hy
  exact dg_l3 (by omega)) (by rw [List.length_map]; exact hr.n3)
 simp only [List.length_cons, List.length_nil] at hk
 unfold ruleL
 cases r.fAfter != 0
 ·simp only [cond_false, List.length_append, List.length_cons, List.length_nil]; omega
 ·simp only [cond_true, List.length_append, List.length_cons, List.length_nil]; omega
def spec_l4Out_v (x0 : Out) : Int := (bif !(spec_l1In_v x0.fValue 1 1000000) then 3 else (spec_l2Fault_v x0.fRule))
theorem spec_l4Out_ev (x0 : Out) (h_x0 : smOut x0) : Evt (fun k => spec_l4Out.f k x0) (spec_l4Out_v x0) :=
 (Evt.bind (spec_l1In_ev x0.fValue 1 1000000) (Evt.ifh (fun hc0 => (Evt.self _)) (fun hc0 => (Evt.bind (spec_l2Fault_ev x0.fRule (h_x0.2)) (Evt.self _)))))
def spec_l4Ahead_v (x0 : Ref) (x1 : Ref) : Bool := (bif (x0.fTx != x1.fTx) then (decide (x0.fTx < x1.fTx)) else (decide (x0.fAt < x1.fAt)))
theorem spec_l4Ahead_ev (x0 : Ref) (x1 : Ref)  : Evt (fun k => spec_l4Ahead.f k x0 x1) (spec_l4Ahead_v x0 x1) :=
 (Evt.ifh (fun hc0 => (Evt.self _)) (fun hc0 => (Evt.self _)))
def spec_l4Fault_v (x0 : List Coin) : Int := (bif (decide (40 < (x0.length : Int))) then 2 else (onO ((List.range' 0 (x0.length - 0)).findSome? (fun (i0 : Nat) => (bif ((!(spec_l3Ref_v ((gt x0 (i0 : Int)).fRef))) || (!(bif (!(!(spec_l3Ref_v ((gt x0 (i0 : Int)).fRef)))) then (spec_l2Height_v ((gt x0 (i0 : Int)).fHeight)) else default))) then (some 3) else (bif ((spec_l4Out_v ((gt x0 (i0 : Int)).fOut)) != 0) then (some (spec_l4Out_v ((gt x0 (i0 : Int)).fOut))) else (bif ((decide (0 < (i0 : Int))) && (!(bif (decide (0 < (i0 : Int))) then (spec_l4Ahead_v ((gt x0 (wrap64 ((i0 : Int) - 1))).fRef) ((gt x0 (i0 : Int)).fRef)) else default))) then (some 1) else none))))) (fun r => r) 0))
theorem spec_l4Fault_ev (x0 : List Coin) (h_x0 : (Lm smCoin) x0) : Evt (fun k => spec_l4Fault.f k x0) (spec_l4Fault_v x0) :=
 (Evt.ifh (fun hc4 => (Evt.self _)) (fun hc4 => (Evt.loop (r' := fun r => r) (Evt.srch (L := (fun k i => spec_l4Fault.l0 x0 k i)) 0 x0.length (by have := h_x0; first | (have := this.1; omega) | omega) (fun (i0 : Nat) => (bif ((!(spec_l3Ref_v ((gt x0 (i0 : Int)).fRef))) || (!(bif (!(!(spec_l3Ref_v ((gt x0 (i0 : Int)).fRef)))) then (spec_l2Height_v ((gt x0 (i0 : Int)).fHeight)) else default))) then (some 3) else (bif ((spec_l4Out_v ((gt x0 (i0 : Int)).fOut)) != 0) then (some (spec_l4Out_v ((gt x0 (i0 : Int)).fOut))) else (bif ((decide (0 < (i0 : Int))) && (!(bif (decide (0 < (i0 : Int))) then (spec_l4Ahead_v ((gt x0 (wrap64 ((i0 : Int) - 1))).fRef) ((gt x0 (i0 : Int)).fRef)) else default))) then (some 1) else none)))) (fun i0 hs4 hi4 => by
 have hbn : x0.length ≤ 9223372036854775807 := (by have := h_x0; first | (have := this.1; omega) | omega)
 simp only [spec_l4Fault.l0_s]
 exact Evt_t2 (int_lt hi4) (StE.chk (by first | exact idx_ok (by omega) | exact idx_ok (by have hq := len_eq (by assumption); omega) | exact idx_found (show (0 : Int) ≤ (i0 : Int) by simp_all) | exact cut_ok (by omega) | exact or_ok (idx_ok (by omega)) | (refine or1 (fun hz => pre_ok (by simp at hz; omega) (by omega) (by omega))) | exact pre_ok (by omega) (by omega) (by omega) | (simp_all [idxOk, cutOk, leB]; done) | (simp_all [idxOk, cutOk, leB]; omega) | (simp [idxOk, cutOk, leB] at *; omega) | (have hf0 := h_x0.1; simp only [leB, decide_eq_true_eq, List.length_append, List.length_cons, List.length_nil]; omega)) (StE.bind (spec_l3Ref_ev ((gt x0 (i0 : Int)).fRef)) (StE.chk (by first | exact idx_ok (by omega) | exact idx_ok (by have hq := len_eq (by assumption); omega) | exact idx_found (by simp_all) | exact cut_ok (by omega) | exact or_ok (idx_ok (by omega)) | (refine or1 (fun hz => pre_ok (by simp at hz; omega) (by omega) (by omega))) | exact pre_ok (by omega) (by omega) (by omega) | (simp_all [idxOk, cutOk, leB]; done) | (simp_all [idxOk, cutOk, leB]; omega) | (simp [idxOk, cutOk, leB] at *; omega) | (have hf0 := h_x0.1; simp only [leB, decide_eq_true_eq, List.length_append, List.length_cons, List.length_nil]; omega)) (StE.bind (Evt.ifh (fun _ => (spec_l2Height_ev ((gt x0 (i0 : Int)).fHeight))) (fun _ => Evt.self _)) (StE.ifh (fun hc3 => (StE.ret _)) (fun hc3 => (StE.chk (by first | exact idx_ok (by omega) | exact idx_ok (by have hq := len_eq (by assumption); omega) | exact idx_found (show (0 : Int) ≤ (i0 : Int) by simp_all) | exact cut_ok (by omega) | exact or_ok (idx_ok (by omega)) | (refine or1 (fun hz => pre_ok (by simp at hz; omega) (by omega) (by omega))) | exact pre_ok (by omega) (by omega) (by omega) | (simp_all [idxOk, cutOk, leB]; done) | (simp_all [idxOk, cutOk, leB]; omega) | (simp [idxOk, cutOk, leB] at *; omega) | (have hf0 := h_x0.1; simp only [leB, decide_eq_true_eq, List.length_append, List.length_cons, List.length_nil]; omega)) (StE.bind (spec_l4Out_ev ((gt x0 (i0 : Int)).fOut) (((h_x0).2 _ (gt_mem (by first | omega | (have hq := len_eq (by assumption); omega) | (have hf0 := h_x0.1; simp only [leB, decide_eq_true_eq, List.length_append, List.length_cons, List.length_nil]; omega)))).2.1)) (StE.ifh (fun hc2 => (StE.ret _)) (fun hc2 => (StE.chk (by first | exact idx_ok (by omega) | exact idx_ok (by have hq := len_eq (by assumption); omega) | exact idx_found (by simp_all) | exact cut_ok (by omega) | exact or_ok (idx_ok (by omega)) | (refine or1 (fun hz => pre_ok (by simp at hz; omega) (by omega) (by omega))) | exact pre_ok (by omega) (by omega) (by omega) | (simp_all [idxOk, cutOk, leB]; done) | (simp_all [idxOk, cutOk, leB]; omega) | (simp [idxOk, cutOk, leB] at *; omega) | (have hf0 := h_x0.1; simp only [leB, decide_eq_true_eq, List.length_append, List.length_cons, List.length_nil]; omega)) (StE.chk (by first | exact idx_ok (by omega) | exact idx_ok (by have hq := len_eq (by assumption); omega) | exact idx_found (by simp_all) | exact cut_ok (by omega) | exact or_ok (idx_ok (by omega)) | (refine or1 (fun hz => pre_ok (by simp at hz; omega) (by omega) (by omega))) | exact pre_ok (by omega) (by omega) (by omega) | (simp_all [idxOk, cutOk, leB]; done) | (simp_all [idxOk, cutOk, leB]; omega) | (simp [idxOk, cutOk, leB] at *; omega) | (have hf0 := h_x0.1; simp only [leB, decide_eq_true_eq, List.length_append, List.length_cons, List.length_nil]; omega)) (StE.bind (Evt.ifh (fun _ => (spec_l4Ahead_ev ((gt x0 (wrap64 ((i0 : Int) - 1))).fRef) ((gt x0 (i0 : Int)).fRef))) (fun _ => Evt.self _)) (StE.ifh (fun hc1 => (StE.ret _)) (fun hc1 => StE.next)))))))))))))))) (fun j hj => by
 simp only [spec_l4Fault.l0_s]
 exact Evt.f (ge_lt hj) (Evt.self _))) (fun _ => rfl) (Evt.self _))))
def spec_l3Among_v (x0 : List Ref) (x1 : Ref) : Bool := (onO ((List.range' 0 (x0.length - 0)).findSome? (fun (i0 : Nat) => (bif ((((gt x0 (i0 : Int)).fTx) == x1.fTx) && (((gt x0 (i0 : Int)).fAt) == x1.fAt)) then (some true) else none))) (fun r => r) false)
theorem spec_l3Among_ev (x0 : List Ref) (x1 : Ref) (h_x0 : (Lm smRef) x0) : Evt (fun k => spec_l3Among.f k x0 x1) (spec_l3Among_v x0 x1) :=
 (Evt.loop (r' := fun r => r) (Evt.srch (L := (fun k i => spec_l3Among.l0 x0 x1 k i)) 0 x0.length (by have := h_x0; first | (have := this.1; omega) | omega) (fun (i0 : Nat) => (bif ((((gt x0 (i0 : Int)).fTx) == x1.fTx) && (((gt x0 (i0 : Int)).fAt) == x1.fAt)) then (some true) else none)) (fun i0 hs2 hi2 => by
 have hbn : x0.length ≤ 9223372036854775807 := (by have := h_x0; first | (have := this.1; omega) | omega)
 simp only [spec_l3Among.l0_s]
 exact Evt_t2 (int_lt hi2) (StE.chk (by first | exact idx_ok (by omega) | exact idx_ok (by have hq := len_eq (by assumption); omega) | exact idx_found (show (0 : Int) ≤ (i0 : Int) by simp_all) | exact cut_ok (by omega) | exact or_ok (idx_ok (by omega)) | (refine or1 (fun hz => pre_ok (by simp at hz; omega) (by omega) (by omega))) | exact pre_ok (by omega) (by omega) (by omega) | (simp_all [idxOk, cutOk, leB]; done) | (simp_all [idxOk, cutOk, leB]; omega) | (simp [idxOk, cutOk, leB] at *; omega) | (have hf0 := h_x0.1; simp only [leB, decide_eq_true_eq, List.length_append, List.length_cons, List.length_nil]; omega)) (StE.ifh (fun hc1 => (StE.ret _)) (fun hc1 => StE.next)))) (fun j hj => by
 simp only [spec_l3Among.l0_s]
 exact Evt.f (ge_lt hj) (Evt.self _))) (fun _ => rfl) (Evt.self _))
def spec_l3Outs_v (x0 : Tx) : Int := (onO ((List.range' 0 (x0.fOuts.length - 0)).findSome? (fun (i0 : Nat) => (bif !(spec_l1In_v ((gt x0.fOuts (i0 : Int)).fValue) 1 1000000) then (some 3) else (bif ((spec_l2Fault_v ((gt x0.fOuts (i0 : Int)).fRule)) != 0) then (some (spec_l2Fault_v ((gt x0.fOuts (i0 : Int)).fRule))) else none)))) (fun r => r) (bif ((x0.fKind == 1) && (decide (((gt x0.fOuts (0 : Int)).fValue) < 100))) then 8 else 0))
theorem spec_l3Outs_ev (x0 : Tx) (h_x0 : smTx x0) (hpre : 0 < x0.fOuts.length) : Evt (fun k => spec_l3Outs.f k x0) (spec_l3Outs_v x0) :=
 (Evt.loop (r' := fun r => r) (Evt.srch (L := (fun k i => spec_l3Outs.l0 x0 k i)) 0 x0.fOuts.length (by have := h_x0.2.2.2; first | (have := this.1; omega) | omega) (fun (i0 : Nat) => (bif !(spec_l1In_v ((gt x0.fOuts (i0 : Int)).fValue) 1 1000000) then (some 3) else (bif ((spec_l2Fault_v ((gt x0.fOuts (i0 : Int)).fRule)) != 0) then (some (spec_l2Fault_v ((gt x0.fOuts (i0 : Int)).fRule))) else none))) (fun i0 hs3 hi3 => by
 have hbn : x0.fOuts.length ≤ 9223372036854775807 := (by have := h_x0.2.2.2; first | (have := this.1; omega) | omega)
 simp only [spec_l3Outs.l0_s]
 exact Evt_t2 (int_lt hi3) (StE.chk (by first | exact idx_ok (by omega) | exact idx_ok (by have hq := len_eq (by assumption); omega) | exact idx_found (show (0 : Int) ≤ (i0 : Int) by simp_all) | exact cut_ok (by omega) | exact or_ok (idx_ok (by omega)) | (refine or1 (fun hz => pre_ok (by simp at hz; omega) (by omega) (by omega))) | exact pre_ok (by omega) (by omega) (by omega) | (simp_all [idxOk, cutOk, leB]; done) | (simp_all [idxOk, cutOk, leB]; omega) | (simp [idxOk, cutOk, leB] at *; omega) | (simp_all [idxOk]; omega) | (simp [idxOk]; omega) | (have hf0 := h_x0.2.2.1.1; have hf1 := h_x0.2.2.2.1; simp only [leB, decide_eq_true_eq, List.length_append, List.length_cons, List.length_nil]; omega)) (StE.bind (spec_l1In_ev ((gt x0.fOuts (i0 : Int)).fValue) 1 1000000) (StE.ifh (fun hc2 => (StE.ret _)) (fun hc2 => (StE.chk (by first | exact idx_ok (by omega) | exact idx_ok (by have hq := len_eq (by assumption); omega) | exact idx_found (show (0 : Int) ≤ (i0 : Int) by simp_all) | exact cut_ok (by omega) | exact or_ok (idx_ok (by omega)) | (refine or1 (fun hz => pre_ok (by simp at hz; omega) (by omega) (by omega))) | exact pre_ok (by omega) (by omega) (by omega) | (simp_all [idxOk, cutOk, leB]; done) | (simp_all [idxOk, cutOk, leB]; omega) | (simp [idxOk, cutOk, leB] at *; omega) | (simp_all [idxOk]; omega) | (simp [idxOk]; omega) | (have hf0 := h_x0.2.2.1.1; have hf1 := h_x0.2.2.2.1; simp only [leB, decide_eq_true_eq, List.length_append, List.length_cons, List.length_nil]; omega)) (StE.bind (spec_l2Fault_ev ((gt x0.fOuts (i0 : Int)).fRule) (((h_x0.2.2.2).2 _ (gt_mem (by first | omega | (have hq := len_eq (by assumption); omega) | (simp_all [idxOk]; omega) | (simp [idxOk]; omega) | (have hf0 := h_x0.2.2.1.1; have hf1 := h_x0.2.2.2.1; simp only [leB, decide_eq_true_eq, List.length_append, List.length_cons, List.length_nil]; omega)))).2)) (StE.ifh (fun hc1 => (StE.ret _)) (fun hc1 => StE.next))))))))) (fun j hj => by
 simp only [spec_l3Outs.l0_s]
 exact Evt.f (ge_lt hj) (Evt.self _))) (fun _ => rfl) (Evt.chk (by first | exact idx_ok (by omega) | exact idx_ok (by have hq := len_eq (by assumption); omega) | exact idx_found (by simp_all) | exact cut_ok (by omega) | exact or_ok (idx_ok (by omega)) | (refine or1 (fun hz => pre_ok (by simp at hz; omega) (by omega) (by omega))) | exact pre_ok (by omega) (by omega) (by omega) | (simp_all [idxOk, cutOk, leB]; done) | (simp_all [idxOk, cutOk, leB]; omega) | (simp [idxOk, cutOk, leB] at *; omega) | (simp_all [idxOk]; omega) | (simp [idxOk]; omega) | (have hf0 := h_x0.2.2.1.1; have hf1 := h_x0.2.2.2.1; simp only [leB, decide_eq_true_eq, List.length_append, List.length_cons, List.length_nil]; omega)) (Evt.ifh (fun hc3 => (Evt.self _)) (fun hc3 => (Evt.self _)))))
def spec_l3Fault_v (x0 : Tx) : Int := (bif ((!(spec_l1In_v x0.fKind 0 2)) || ((x0.fKind == 0) != (x0.fMember == 0))) then 1 else (bif ((x0.fKind != 0) && (!(bif (x0.fKind != 0) then (spec_l1Key_v x0.fMember) else default))) then 3 else (bif ((!(spec_l1In_v (x0.fIns.length : Int) 1 4)) || (!(bif (!(!(spec_l1In_v (x0.fIns.length : Int) 1 4))) then (spec_l1In_v (x0.fOuts.length : Int) 1 4) else default))) then 2 else (onO ((List.range' 0 (x0.fIns.length - 0)).findSome? (fun (i0 : Nat) => (bif !(spec_l3Ref_v (gt x0.fIns (i0 : Int))) then (some 3) else (bif (spec_l3Among_v (x0.fIns.take ((i0 : Int)).toNat) (gt x0.fIns (i0 : Int))) then (some 7) else none)))) (fun r => r) (spec_l3Outs_v x0)))))
theorem spec_l3Fault_ev (x0 : Tx) (h_x0 : smTx x0) : Evt (fun k => spec_l3Fault.f k x0) (spec_l3Fault_v x0) :=
 (Evt.bind (spec_l1In_ev x0.fKind 0 2) (Evt.ifh (fun hc5 => (Evt.self _)) (fun hc5 => (Evt.bind (Evt.ifh (fun _ => (spec_l1Key_ev x0.fMember)) (fun _ => Evt.self _)) (Evt.ifh (fun hc4 => (Evt.self _)) (fun hc4 => (Evt.bind (spec_l1In_ev (x0.fIns.length : Int) 1 4) (Evt.bind (Evt.ifh (fun _ => (spec_l1In_ev (x0.fOuts.length : Int) 1 4)) (fun _ => Evt.self _)) (Evt.ifh (fun hc3 => (Evt.self _)) (fun hc3 => (Evt.loop (r' := fun r => r) (Evt.srch (L := (fun k i => spec_l3Fault.l0 x0 k i)) 0 x0.fIns.length (by have := h_x0.2.2.1; first | (have := this.1; omega) | omega) (fun (i0 : Nat) => (bif !(spec_l3Ref_v (gt x0.fIns (i0 : Int))) then (some 3) else (bif (spec_l3Among_v (x0.fIns.take ((i0 : Int)).toNat) (gt x0.fIns (i0 : Int))) then (some 7) else none))) (fun i0 hs3 hi3 => by
 have hbn : x0.fIns.length ≤ 9223372036854775807 := (by have := h_x0.2.2.1; first | (have := this.1; omega) | omega)
 simp only [spec_l3Fault.l0_s]
 exact Evt_t2 (int_lt hi3) (StE.chk (by first | exact idx_ok (by omega) | exact idx_ok (by have hq := len_eq (by assumption); omega) | exact idx_found (show (0 : Int) ≤ (i0 : Int) by simp_all) | exact cut_ok (by omega) | exact or_ok (idx_ok (by omega)) | (refine or1 (fun hz => pre_ok (by simp at hz; omega) (by omega) (by omega))) | exact pre_ok (by omega) (by omega) (by omega) | (simp_all [idxOk, cutOk, leB]; done) | (simp_all [idxOk, cutOk, leB]; omega) | (simp [idxOk, cutOk, leB] at *; omega) | (simp_all [spec_l1In_v]; omega) | (have hf0 := h_x0.2.2.1.1; have hf1 := h_x0.2.2.2.1; simp only [leB, decide_eq_true_eq, List.length_append, List.length_cons, List.length_nil]; omega)) (StE.bind (spec_l3Ref_ev (gt x0.fIns (i0 : Int))) (StE.ifh (fun hc2 => (StE.ret _)) (fun hc2 => (StE.chk (by first | exact idx_ok (by omega) | exact idx_ok (by have hq := len_eq (by assumption); omega) | exact idx_found (by simp_all) | exact cut_ok (by omega) | exact or_ok (idx_ok (by omega)) | (refine or1 (fun hz => pre_ok (by simp at hz; omega) (by omega) (by omega))) | exact pre_ok (by omega) (by omega) (by omega) | (simp_all [idxOk, cutOk, leB]; done) | (simp_all [idxOk, cutOk, leB]; omega) | (simp [idxOk, cutOk, leB] at *; omega) | (simp_all [spec_l1In_v]; omega) | (have hf0 := h_x0.2.2.1.1; have hf1 := h_x0.2.2.2.1; simp only [leB, decide_eq_true_eq, List.length_append, List.length_cons, List.length_nil]; omega)) (StE.chk (by first | exact idx_ok (by omega) | exact idx_ok (by have hq := len_eq (by assumption); omega) | exact idx_found (show (0 : Int) ≤ (i0 : Int) by simp_all) | exact cut_ok (by omega) | exact or_ok (idx_ok (by omega)) | (refine or1 (fun hz => pre_ok (by simp at hz; omega) (by omega) (by omega))) | exact pre_ok (by omega) (by omega) (by omega) | (simp_all [idxOk, cutOk, leB]; done) | (simp_all [idxOk, cutOk, leB]; omega) | (simp [idxOk, cutOk, leB] at *; omega) | (simp_all [spec_l1In_v]; omega) | (have hf0 := h_x0.2.2.1.1; have hf1 := h_x0.2.2.2.1; simp only [leB, decide_eq_true_eq, List.length_append, List.length_cons, List.length_nil]; omega)) (StE.bind (spec_l3Among_ev (x0.fIns.take ((i0 : Int)).toNat) (gt x0.fIns (i0 : Int)) ((Lm_take h_x0.2.2.1))) (StE.ifh (fun hc1 => (StE.ret _)) (fun hc1 => StE.next)))))))))) (fun j hj => by
 simp only [spec_l3Fault.l0_s]
 exact Evt.f (ge_lt hj) (Evt.self _))) (fun _ => rfl) (Evt.bind (spec_l3Outs_ev x0 (h_x0) (by first | assumption | (simp_all; omega) | (simp_all [spec_l1In_v]; omega) | (have hf0 := h_x0.2.2.1.1; have hf1 := h_x0.2.2.2.1; simp only [leB, decide_eq_true_eq, List.length_append, List.length_cons, List.length_nil]; omega))) (Evt.self _)))))))))))))
structure TxOK (t : Tx) : Prop where
 kind : 0 ≤ t.fKind ∧ t.fKind ≤ 2
 mem0 : t.fKind = 0 → t.fMember = 0
 mem : t.fKind ≠ 0 → 1 ≤ t.fMember ∧ t.fMember ≤ 999
 ins1 : 1 ≤ t.fIns.length
 ins4 : t.fIns.length ≤ 4
 outs1 : 1 ≤ t.fOuts.length
 outs4 : t.fOuts.length ≤ 4
 ins : ∀ r ∈ t.fIns, (1 ≤ r.fTx ∧ r.fTx ≤ 60) ∧ 0 ≤ r.fAt ∧ r.fAt ≤ 3
 outs : ∀ o ∈ t.fOuts, (1 ≤ o.fValue ∧ o.fValue ≤ 1000000) ∧ spec_l2Fault_v o.fRule = 0
theorem tx_ok (x0 : Tx) (h : (spec_l3Fault_v x0 != 0) = false) : TxOK x0 := by
 have h0 : spec_l3Fault_v x0 = 0 := by simpa using h
 unfold spec_l3Fault_v at h0
 cases hc : ((!(spec_l1In_v x0.fKind 0 2)) || ((x0.fKind == 0) != (x0.fMember == 0)))
 ·rw [hc] at h0
  cases hd : ((x0.fKind != 0) && (!(bif (x0.fKind != 0) then (spec_l1Key_v x0.fMember) else default)))
  ·rw [hd] at h0
   cases he : ((!(spec_l1In_v (x0.fIns.length : Int) 1 4)) || (!(bif (!(!(spec_l1In_v (x0.fIns.length : Int) 1 4))) then (spec_l1In_v (x0.fOuts.length : Int) 1 4) else default)))
   ·rw [he] at h0
    have h1 : onO ((List.range' 0 (x0.fIns.length - 0)).findSome? (fun (i0 : Nat) => (bif !(spec_l3Ref_v (gt x0.fIns (i0 : Int))) then (some (3 : Int)) else (bif (spec_l3Among_v (x0.fIns.take ((i0 : Int)).toNat) (gt x0.fIns (i0 : Int))) then (some 7) else none)))) (fun r => r) (spec_l3Outs_v x0) = 0 := h0
    obtain ⟨h2, h3⟩ := onO_zero h1 (fun i => by
     cases spec_l3Ref_v (gt x0.fIns (i : Int))
     ·simp
     ·cases spec_l3Among_v (x0.fIns.take ((i : Int)).toNat) (gt x0.fIns (i : Int)) <;> simp)
    have hk := fs_all h2
    unfold spec_l3Outs_v at h3
    obtain ⟨h4, _⟩ := onO_zero h3 (fun i => by
     cases spec_l1In_v ((gt x0.fOuts (i : Int)).fValue) 1 1000000
     ·simp
     ·cases hq : spec_l2Fault_v ((gt x0.fOuts (i : Int)).fRule) != 0
      ·simp
      ·simp only [Bool.not_true, cond_false, cond_true]
       intro e
       rw [Option.some.inj e] at hq; cases hq)
    have hl := fs_all h4
    simp only [spec_l1In_v, spec_l1Key_v, Bool.or_eq_false_iff, Bool.not_eq_false', Bool.and_eq_true, decide_eq_true_eq] at hc he
    obtain ⟨hc1, hc2⟩ := hc
    obtain ⟨he1, he2⟩ := he
    have he3 : 1 ≤ (x0.fOuts.length : Int) ∧ (x0.fOuts.length : Int) ≤ 4 := by
     have e : (decide (1 ≤ (x0.fIns.length : Int)) && decide ((x0.fIns.length : Int) ≤ 4)) = true := by rw [Bool.and_eq_true, decide_eq_true_eq, decide_eq_true_eq]; exact he1
     rw [e] at he2
     have he2' : (decide (1 ≤ (x0.fOuts.length : Int)) && decide ((x0.fOuts.length : Int) ≤ 4)) = true := he2
     rwa [Bool.and_eq_true, decide_eq_true_eq, decide_eq_true_eq] at he2'
    have hc3 : (x0.fKind == 0) = (x0.fMember == 0) := by
     cases e1 : (x0.fKind == 0) <;> cases e2 : (x0.fMember == 0) <;> rw [e1, e2] at hc2 <;> first | rfl | cases hc2
    refine ⟨hc1, fun hz => ?_, fun hz => ?_, by omega, by omega, by omega, by omega, fun r hr => ?_, fun o ho => ?_⟩
    ·have : (x0.fMember == 0) = true := by rw [← hc3, hz]; rfl
     simpa using this
    ·have e1 : (x0.fKind != 0) = true := by simpa using hz
     rw [e1] at hd
     have hd' : spec_l1Key_v x0.fMember = true := by
      cases hq : spec_l1Key_v x0.fMember
      ·rw [hq] at hd; cases hd
      ·rfl
     simpa only [spec_l1Key_v, spec_l1In_v, Bool.and_eq_true, decide_eq_true_eq] using hd'
    ·obtain ⟨i, hi, rfl⟩ := List.getElem_of_mem hr
     have h5 := hk i hi
     rw [gt_eq (by simpa using hi)] at h5
     cases h6 : spec_l3Ref_v x0.fIns[i]
     ·simp only [Int.toNat_natCast] at h5; rw [h6] at h5; cases h5
     ·unfold spec_l3Ref_v at h6
      rw [Bool.and_eq_true] at h6
      rw [h6.1] at h6
      have h7 : spec_l1In_v x0.fIns[i].fAt 0 3 = true := h6.2
      have h8 := h6.1
      simp only [spec_l1In_v, Bool.and_eq_true, decide_eq_true_eq] at h7
      refine ⟨?_, h7⟩
      have h9 : spec_l1In_v x0.fIns[i].fTx 1 60 = true := by
       cases hq : spec_l1In_v x0.fIns[i].fTx 1 60
       ·have h5' := hk i hi
        rw [gt_eq (by simpa using hi)] at h5'
        simp only [Int.toNat_natCast, spec_l3Ref_v] at h5'
        rw [hq] at h5'; cases h5'
       ·rfl
      simpa only [spec_l1In_v, Bool.and_eq_true, decide_eq_true_eq] using h9
    ·obtain ⟨i, hi, rfl⟩ := List.getElem_of_mem ho
     have h5 := hl i hi
     rw [gt_eq (by simpa using hi)] at h5
     simp only [Int.toNat_natCast] at h5
     cases h6 : spec_l1In_v x0.fOuts[i].fValue 1 1000000
     ·rw [h6] at h5; cases h5
     ·rw [h6] at h5
      simp only [spec_l1In_v, Bool.and_eq_true, decide_eq_true_eq] at h6
      refine ⟨h6, ?_⟩
      cases h7 : spec_l2Fault_v x0.fOuts[i].fRule != 0
      ·simpa using h7
      ·rw [h7] at h5; cases h5
   ·rw [he] at h0; exact absurd (show (2 : Int) = 0 from h0) (by decide)
  ·rw [hd] at h0; exact absurd (show (3 : Int) = 0 from h0) (by decide)
 ·rw [hc] at h0; exact absurd (show (1 : Int) = 0 from h0) (by decide)
def refL (r : Ref) : List UInt8 := dgL r.fTx ++ [58] ++ dgL r.fAt
def outL (o : Out) : List UInt8 := dgL o.fValue ++ [61] ++ ruleL o.fRule [95]
def kindW (k : Int) : List UInt8 := bif k == 0 then [112, 97, 121] else bif k == 1 then [106, 111, 105, 110] else [108, 101, 97, 118, 101]
def txHead (t : Tx) : List (List UInt8) := bif t.fKind != 0 then [kindW t.fKind, dgL t.fMember] else [kindW t.fKind]
def txWs (t : Tx) : List (List UInt8) := txHead t ++ [Lib.join (t.fIns.map refL) [43]] ++ t.fOuts.map outL
def txL (t : Tx) : List UInt8 := Lib.join (txWs t) [32]
theorem refL_len {r : Ref} (h : (1 ≤ r.fTx ∧ r.fTx ≤ 60) ∧ 0 ≤ r.fAt ∧ r.fAt ≤ 3) : (refL r).length ≤ 4 := by
 have h1 := dg_l2 (n := r.fTx) (by omega)
 have h2 := dg_l1 (n := r.fAt) (by omega)
 unfold refL
 simp only [List.length_append, List.length_cons, List.length_nil]; omega
theorem outL_len {o : Out} (h : (1 ≤ o.fValue ∧ o.fValue ≤ 1000000) ∧ spec_l2Fault_v o.fRule = 0) : (outL o).length ≤ 58 := by
 have h1 := dg_l7 (n := o.fValue) (by omega)
 have h2 := ruleL_len o.fRule 95 (rule_ok o.fRule (by rw [h.2]; rfl))
 unfold outL
 simp only [List.length_append, List.length_cons, List.length_nil]; omega
theorem ins_len {t : Tx} (ht : TxOK t) : (Lib.join (t.fIns.map refL) [43]).length ≤ 20 := by
 have hk := join_le (m := 4) (n := 4) (sep := [43]) (xs := t.fIns.map refL) (by
  intro x hx
  obtain ⟨y, hy, rfl⟩ := List.mem_map.1 hx
  exact refL_len (ht.ins y hy)) (by rw [List.length_map]; exact ht.ins4)
 simp only [List.length_cons, List.length_nil] at hk; omega
theorem kindW_len (k : Int) : (kindW k).length ≤ 5 := by unfold kindW; cases k == 0 <;> cases k == 1 <;> decide
theorem txWs_len {t : Tx} (ht : TxOK t) : (txWs t).length ≤ 7 ∧ ∀ p ∈ txWs t, p.length ≤ 58 := by
 have ho := ht.outs4
 refine ⟨?_, fun p hp => ?_⟩
 ·unfold txWs txHead
  cases t.fKind != 0 <;> simp <;> omega
 ·unfold txWs at hp
  rcases List.mem_append.1 hp with hp | hp
  ·rcases List.mem_append.1 hp with hp | hp
   ·unfold txHead at hp
    have hk := kindW_len t.fKind
    cases hz : t.fKind != 0
    ·rw [hz] at hp; simp at hp; subst hp; omega
    ·rw [hz] at hp
     have hm := dg_l3 (n := t.fMember) (by have := ht.mem (by simpa using hz); omega)
     simp at hp; rcases hp with rfl | rfl <;> omega
   ·have := ins_len ht
    simp at hp; subst hp; omega
  ·obtain ⟨o, ho, rfl⟩ := List.mem_map.1 hp
   exact outL_len (ht.outs o ho)
theorem txL_len {t : Tx} (ht : TxOK t) : (txL t).length ≤ 413 := by
 obtain ⟨h1, h2⟩ := txWs_len ht
 have hk := join_le (m := 58) (n := 7) (sep := [32]) h2 h1
 simp only [List.length_cons, List.length_nil] at hk
 unfold txL; omega
theorem tail_app (s : List UInt8) (a b : List (List UInt8)) : Lib.joinTail s (a ++ b) = Lib.joinTail s a ++ Lib.joinTail s b := by simp [Lib.joinTail]
theorem txL_eq (t : Tx) : txL t = (bif t.fKind != 0 then kindW t.fKind ++ [32] ++ dgL t.fMember else kindW t.fKind) ++ [32] ++ Lib.join (t.fIns.map refL) [43] ++ Lib.joinTail [32] (t.fOuts.map outL) := by
 unfold txL txWs txHead
 cases t.fKind != 0
 ·simp only [cond_false]
  rw [List.append_assoc, List.cons_append, List.nil_append, Lib.join_cons, tail_app]
  simp [Lib.joinTail]
 ·simp only [cond_true]
  rw [List.append_assoc, List.cons_append, Lib.join_cons, tail_app, tail_app]
  simp [Lib.joinTail]
theorem spec_l2Digits_ev (n : Int) (h0 : 0 ≤ n) (h1 : n ≤ 1000000) : Evt (fun k => spec_l2Digits.f k n) (mkB (dgL n)) := by
 have key : ∀ u : Nat, u ≤ 1000000 → Evt (fun k => spec_l2Digits.f k (u : Int)) (mkB (Lib.decDigits u)) := by
  intro u
  induction u using Nat.strongRecOn with
  | _ u ih =>
   intro hu
   refine Evt.s ?_
   simp only [spec_l2Digits.f_s]
   by_cases h : u < 10
   ·have e1 : IntKind.u8.wrap (wrap64 (48 + (u : Int))) = ((48 + u : Nat) : Int) := by rw [wrap64_in _ (by omega), u8_in _ (by omega)]; omega
    rw [e1, Lib.decDigits, dif_pos h]
    exact Evt.t (by simp; omega) (Evt.self _)
   ·have e1 : IntKind.i64.wrap (Int.tdiv (u : Int) 10) = ((u / 10 : Nat) : Int) := by rw [i64_quo _ _ ⟨by omega, by omega, by omega⟩]; omega
    have e0 : Int.tmod (u : Int) 10 = ((u % 10 : Nat) : Int) := by rw [rem_in _ _ (by omega)]; omega
    have e2 : IntKind.u8.wrap (wrap64 (48 + (Int.tmod (u : Int) 10))) = ((48 + u % 10 : Nat) : Int) := by rw [e0, wrap64_in _ (by omega), u8_in _ (by omega)]; omega
    have hl' : (Lib.decDigits (u / 10)).length ≤ u / 10 + 1 := by
     have hl := dgL_len ((u / 10 : Nat) : Int) (u / 10) (Int.toNat_natCast _)
     unfold dgL at hl
     rw [Int.toNat_natCast] at hl
     exact hl
    refine Evt.f (by simp; omega) (Evt.chk rfl (Evt.chk rfl ?_))
    rw [e1, e2]
    have e3 : strOfNums ([((48 + u % 10 : Nat) : Int)] : List Int) = mkB [UInt8.ofNat (48 + u % 10)] := rfl
    refine (Evt.bind (ih (u / 10) (by omega) (by omega)) (Evt.chk ?_ (Evt.self _))).to ?_
    ·refine decide_eq_true ?_
     rw [mkB_size, e3, mkB_size]; simp; omega
    ·rw [e3, mkB_append, Lib.decDigits.eq_1 u, dif_neg h]
 have := key n.toNat (by omega)
 rw [Int.toNat_of_nonneg h0] at this
 exact this
theorem spec_l2Text_loop (r : Rule) (hk : ∀ x ∈ r.fKeys, 1 ≤ x ∧ x ≤ 999) (hn : r.fKeys.length ≤ 3) : ∀ (d i : Nat) (acc : List UInt8), i + d = r.fKeys.length → acc.length + 1100 * d ≤ 100000 → Evt (fun k => spec_l2Text.l0 r k (mkB acc) (i : Int)) (mkB (acc ++ Lib.joinTail [44] ((r.fKeys.drop i).map dgL)))
 | 0, i, acc, hi, hl => by
  rw [List.drop_of_length_le (by omega)]
  refine Evt.s ?_
  simp only [spec_l2Text.l0_s]
  exact Evt.f (ge_lt (by omega)) (Evt.ret (by simp [Lib.joinTail]))
 | d + 1, i, acc, hi, hl => by
  have hlt : i < r.fKeys.length := by omega
  have hx := hk _ (gt_mem hlt)
  have hd := dg3 (gt r.fKeys (i : Int)) (by omega) hx.2
  have c2 : (⟨#[44]⟩ : ByteArray) = mkB [44] := rfl
  have hg : gt r.fKeys (i : Int) = r.fKeys[i] := gt_eq (by simpa using hlt)
  refine Evt.s ?_
  simp only [spec_l2Text.l0_s, c2, mkB_append, mkB_size, List.length_append, List.length_cons, List.length_nil]
  refine Evt.t (int_lt hlt) (Evt.chk (leB_mk (by omega)) (Evt.chk (idx_ok hlt) (Evt.bind (spec_l2Digits_ev (gt r.fKeys (i : Int)) (by omega) (by omega)) ?_)))
  simp only [mkB_append, mkB_size, List.length_append, List.length_cons, List.length_nil]
  refine Evt.chk (leB_mk (by omega)) ?_
  rw [w64 hlt (by omega)]
  refine (spec_l2Text_loop r hk hn d (i + 1) _ (by omega) (by simp only [List.length_append, List.length_cons, List.length_nil]; omega)).to ?_
  have ed : r.fKeys.drop i = r.fKeys[i] :: r.fKeys.drop (i + 1) := List.drop_eq_getElem_cons hlt
  rw [ed, hg, List.map_cons]
  unfold Lib.joinTail
  rw [List.map_cons, List.flatten_cons]
  simp only [List.append_assoc, List.cons_append, List.nil_append]
def spec_l2Text_v (r : Rule) : ByteArray := mkB (ruleL r [32])
theorem spec_l2Text_ev (r : Rule) (hr0 : smRule r) (hpre : (spec_l2Fault_v r != 0) = false) : Evt (fun k => spec_l2Text.f k r) (spec_l2Text_v r) := by
 have hr := rule_ok r hpre
 have hd := dg3 r.fNeed (by have := hr.need; omega) (by have := hr.need; omega)
 have hf := dg3 r.fAfter hr.after.1 hr.after.2
 have hlt : 0 < r.fKeys.length := hr.n1
 have hx := hr.key _ (gt_mem hlt)
 have hk0 := dg3 (gt r.fKeys ((0 : Nat) : Int)) (by omega) hx.2
 have hj := join3 r.fKeys hr.n1 hr.n3 hr.key
 have c1 : (⟨#[32, 111, 102, 32]⟩ : ByteArray) = mkB [32, 111, 102, 32] := rfl
 have c2 : (⟨#[32, 97, 102, 116, 101, 114, 32]⟩ : ByteArray) = mkB [32, 97, 102, 116, 101, 114, 32] := rfl
 have hg : gt r.fKeys ((0 : Nat) : Int) = r.fKeys[0] := gt_eq (by simpa using hlt)
 have ejoin : Lib.join (r.fKeys.map dgL) [44] = dgL (gt r.fKeys ((0 : Nat) : Int)) ++ Lib.joinTail [44] ((r.fKeys.drop 1).map dgL) := by
  have : r.fKeys = r.fKeys[0] :: r.fKeys.drop 1 := by
   have := List.drop_eq_getElem_cons hlt
   simpa using this
  rw [hg]
  conv => lhs; rw [this]
  rw [List.map_cons, Lib.join_cons]
 unfold spec_l2Text.f
 simp only [c1, c2]
 refine Evt.chk (idx_ok hlt) (Evt.bind (spec_l2Digits_ev r.fNeed (by have := hr.need; omega) (by have := hr.need; omega)) ?_)
 simp only [mkB_append, mkB_size, List.length_append, List.length_cons, List.length_nil]
 refine Evt.chk (leB_mk (by omega)) (Evt.bind (spec_l2Digits_ev (gt r.fKeys ((0 : Nat) : Int)) (by omega) (by omega)) ?_)
 simp only [mkB_append, mkB_size, List.length_append, List.length_cons, List.length_nil]
 refine Evt.chk (leB_mk (by omega)) (Evt.bind (spec_l2Text_loop r hr.key hr.n3 (r.fKeys.length - 1) 1 _ (by omega) (by have := hr.n3; simp only [List.length_append, List.length_cons, List.length_nil]; omega)) ?_)
 have hl2 : (dgL (gt r.fKeys ((0 : Nat) : Int))).length + (Lib.joinTail [44] ((r.fKeys.drop 1).map dgL)).length ≤ 3100 := by
  rw [ejoin, List.length_append] at hj; exact hj
 unfold spec_l2Text_v ruleL
 rw [ejoin]
 cases ha : r.fAfter != 0
 ·refine Evt.f rfl (Evt.ret ?_)
  simp [List.append_assoc]
 ·simp only [mkB_append, mkB_size, List.length_append, List.length_cons, List.length_nil]
  refine Evt.t rfl (Evt.chk (leB_mk (by omega)) (Evt.bind (spec_l2Digits_ev r.fAfter hr.after.1 (by have := hr.after.2; omega)) ?_))
  simp only [mkB_append, mkB_size, List.length_append, List.length_cons, List.length_nil]
  refine Evt.chk (leB_mk (by omega)) (Evt.ret ?_)
  simp [List.append_assoc]
def swB (b : UInt8) : UInt8 := if b = 32 then 95 else b
def swG (a c b : UInt8) : UInt8 := if b = a then c else b
def swI (a c n : Int) : Int := bif n == a then c else n
theorem swap_loop (a c : Int) (xs : List Int) (hn : xs.length ≤ 1048576) : ∀ (d i : Nat) (acc : List Int), i + d = xs.length → acc = (xs.take i).map (swI a c) ++ xs.drop i → Evt (fun k => spec_l3Swap.l0 a c k acc (i : Int)) (xs.map (swI a c))
 | 0, i, acc, hi, ha => by
  have e1 : xs.drop i = [] := List.drop_of_length_le (by omega)
  have e2 : xs.take i = xs := List.take_of_length_le (by omega)
  rw [e1, e2, List.append_nil] at ha
  subst ha
  refine Evt.s ?_
  simp only [spec_l3Swap.l0_s, List.length_map]
  exact Evt.f (ge_lt (by omega)) (Evt.self _)
 | d + 1, i, acc, hi, ha => by
  have hlt : i < xs.length := by omega
  have ed : xs.drop i = xs[i] :: xs.drop (i + 1) := List.drop_eq_getElem_cons hlt
  have et : xs.take (i + 1) = xs.take i ++ [xs[i]] := List.take_succ_eq_append_getElem hlt
  have hl : acc.length = xs.length := by rw [ha, List.length_append, List.length_map, List.length_take, List.length_drop]; omega
  have hlm : ((xs.take i).map (swI a c)).length = i := by rw [List.length_map, List.length_take]; omega
  have hg : gt acc (i : Int) = xs[i] := by
   rw [gt_eq (by rw [hl]; simpa using hlt)]
   simp only [Int.toNat_natCast]
   have : acc[i]? = some xs[i] := by rw [ha, List.getElem?_append_right (by omega), hlm, Nat.sub_self, ed]; rfl
   rw [List.getElem?_eq_getElem (by omega)] at this
   exact Option.some.inj this
  refine Evt.s ?_
  simp only [spec_l3Swap.l0_s, hl, hg]
  refine Evt.t (int_lt hlt) (Evt.chk (idx_ok hlt) ?_)
  rw [w64 hlt (by omega)]
  cases hz : xs[i] == a
  ·refine Evt.f rfl (swap_loop a c xs hn d (i + 1) acc (by omega) ?_)
   have e : swI a c xs[i] = xs[i] := by unfold swI; rw [hz]; rfl
   rw [ha, et, ed, List.map_append, List.map_cons, List.map_nil, e]; simp
  ·refine Evt.t rfl (Evt.chk (idx_ok hlt) (swap_loop a c xs hn d (i + 1) _ (by omega) ?_))
   have e : swI a c xs[i] = c := by unfold swI; rw [hz]; rfl
   simp only [Int.toNat_natCast]
   rw [ha, et, ed, List.map_append, List.map_cons, List.map_nil, e]
   rw [List.set_append, if_neg (by omega), hlm, Nat.sub_self, List.set_cons_zero]; simp
theorem swG_I (a c b : UInt8) : UInt8.ofNat (swI (a.toNat : Int) (c.toNat : Int) (b.toNat : Int)).toNat = swG a c b := by
 unfold swI swG
 by_cases h : b = a
 ·subst h
  rw [if_pos rfl, beq_self_eq_true]
  show UInt8.ofNat (c.toNat : Int).toNat = c
  rw [Int.toNat_natCast, UInt8.ofNat_toNat]
 ·have : ((b.toNat : Int) == (a.toNat : Int)) = false := by
   have h2 : b.toNat ≠ a.toNat := fun e => h (UInt8.toNat_inj.1 e)
   simp; omega
  rw [this, if_neg h]
  show UInt8.ofNat (b.toNat : Int).toNat = b
  rw [Int.toNat_natCast, UInt8.ofNat_toNat]
theorem swapG_ev (a c : UInt8) (l : List UInt8) (hn : l.length ≤ 1048576) : Evt (fun k => spec_l3Swap.f k (mkB l) (a.toNat : Int) (c.toNat : Int)) (mkB (l.map (swG a c))) := by
 have hs : strNums (mkB l) = l.map fun b => (b.toNat : Int) := by simp [strNums, mkB]
 unfold spec_l3Swap.f
 rw [hs]
 refine Evt.bind (swap_loop _ _ (l.map fun b => (b.toNat : Int)) (by rw [List.length_map]; exact hn) _ 0 _ (Nat.zero_add _) (by simp)) (Evt.ret ?_)
 show mkB ((List.map (swI (a.toNat : Int) (c.toNat : Int)) (l.map fun b => (b.toNat : Int))).map fun n => UInt8.ofNat n.toNat) = _
 rw [List.map_map, List.map_map]
 congr 1
 refine List.map_congr_left fun b _ => ?_
 exact swG_I a c b
theorem swap_ev (l : List UInt8) (hn : l.length ≤ 1048576) : Evt (fun k => spec_l3Swap.f k (mkB l) 32 95) (mkB (l.map swB)) := swapG_ev 32 95 l hn
theorem sw_id {l : List UInt8} (h : (32 : UInt8) ∉ l) : l.map swB = l := by
 conv => rhs; rw [← List.map_id l]
 refine List.map_congr_left fun b hb => ?_
 unfold swB
 rw [if_neg (fun e : b = 32 => h (by rw [← e]; exact hb))]; rfl
theorem sw_rule (r : Rule) : (ruleL r [32]).map swB = ruleL r [95] := by
 have hd : ∀ n : Int, (dgL n).map swB = dgL n := fun n => sw_id (dg_no nodg n)
 have hj : (Lib.join (r.fKeys.map dgL) [44]).map swB = Lib.join (r.fKeys.map dgL) [44] := sw_id fun h => by
  rcases mem_join h with h | ⟨p, hp, h⟩
  ·exact absurd h (by decide)
  ·obtain ⟨x, _, rfl⟩ := List.mem_map.1 hp
   exact dg_no nodg _ h
 have h1 : [32].map swB = [95] := rfl
 have h2 : [111, 102].map swB = [111, 102] := rfl
 have h3 : [97, 102, 116, 101, 114].map swB = [97, 102, 116, 101, 114] := rfl
 unfold ruleL
 cases r.fAfter != 0
 ·simp only [cond_false, List.map_append, hd, hj, h1, h2, List.map_nil]
 ·simp only [cond_true, List.map_append, hd, hj, h1, h2, h3]
theorem l3Text_ins (t : Tx) (ht : TxOK t) (i : Nat) (acc sep : List UInt8) (hlt : i < t.fIns.length) (hs : sep.length = 1) (hl : acc.length ≤ 100000) (hz : (bif ((i : Int) == 0) then some (⟨#[32]⟩ : ByteArray) else some (⟨#[43]⟩ : ByteArray)) = some (mkB sep)) {r : ByteArray}
  (h : Evt (fun k => spec_l3Text.l0 t k (mkB (acc ++ sep ++ refL t.fIns[i])) ((i + 1 : Nat) : Int)) r) : Evt (fun k => spec_l3Text.l0 t k (mkB acc) (i : Int)) r := by
 have hx := ht.ins _ (List.getElem_mem hlt)
 have hg : gt t.fIns (i : Int) = t.fIns[i] := gt_eq (by simpa using hlt)
 have hd1 := dg_l2 (n := t.fIns[i].fTx) (by omega)
 have hd2 := dg_l1 (n := t.fIns[i].fAt) (by omega)
 have c58 : (⟨#[58]⟩ : ByteArray) = mkB [58] := rfl
 refine Evt.s ?_
 simp only [spec_l3Text.l0_s, hz, Option.bind_some, mkB_size, hg, c58]
 refine Evt.t (int_lt hlt) (Evt.chk (leB_mk (by omega)) (Evt.chk (idx_ok hlt) (Evt.chk (idx_ok hlt) (Evt.bind (spec_l2Digits_ev t.fIns[i].fTx (by omega) (by omega)) ?_))))
 simp only [mkB_append, mkB_size, List.length_append, List.length_cons, List.length_nil]
 refine Evt.chk (leB_mk (by omega)) (Evt.chk (leB_mk (by omega)) (Evt.bind (spec_l2Digits_ev t.fIns[i].fAt (by omega) (by omega)) ?_))
 simp only [mkB_append, mkB_size, List.length_append, List.length_cons, List.length_nil]
 refine Evt.chk (leB_mk (by omega)) ?_
 rw [w64 hlt (by have := ht.ins4; omega)]
 have e : acc ++ sep ++ dgL t.fIns[i].fTx ++ [58] ++ dgL t.fIns[i].fAt = acc ++ sep ++ refL t.fIns[i] := by unfold refL; simp [List.append_assoc]
 rw [e]; exact h
theorem l3Text_l0 (t : Tx) (ht : TxOK t) : ∀ (d i : Nat) (acc : List UInt8), 1 ≤ i → i + d = t.fIns.length → acc.length + 10 * d ≤ 90000 → Evt (fun k => spec_l3Text.l0 t k (mkB acc) (i : Int)) (mkB (acc ++ Lib.joinTail [43] ((t.fIns.drop i).map refL)))
 | 0, i, acc, h1, hi, hl => by
  rw [List.drop_of_length_le (by omega)]
  refine Evt.s ?_
  simp only [spec_l3Text.l0_s]
  exact Evt.f (ge_lt (by omega)) (Evt.ret (by simp [Lib.joinTail]))
 | d + 1, i, acc, h1, hi, hl => by
  have hlt : i < t.fIns.length := by omega
  have hx := refL_len (ht.ins _ (List.getElem_mem hlt))
  have hz : ((i : Int) == 0) = false := by simp; omega
  refine l3Text_ins t ht i acc [43] hlt rfl (by omega) (by rw [hz]; rfl) ?_
  refine (l3Text_l0 t ht d (i + 1) _ (by omega) (by omega) (by simp only [List.length_append, List.length_cons, List.length_nil]; omega)).to ?_
  have ed : t.fIns.drop i = t.fIns[i] :: t.fIns.drop (i + 1) := List.drop_eq_getElem_cons hlt
  rw [ed, List.map_cons]
  unfold Lib.joinTail
  rw [List.map_cons, List.flatten_cons]
  simp only [List.append_assoc, List.cons_append, List.nil_append]
theorem l3Text_l1 (t : Tx) (h_t : smTx t) (ht : TxOK t) : ∀ (d i : Nat) (acc : List UInt8), i + d = t.fOuts.length → acc.length + 100 * d ≤ 90000 → Evt (fun k => spec_l3Text.l1 t k (mkB acc) (i : Int)) (mkB (acc ++ Lib.joinTail [32] ((t.fOuts.drop i).map outL)))
 | 0, i, acc, hi, hl => by
  rw [List.drop_of_length_le (by omega)]
  refine Evt.s ?_
  simp only [spec_l3Text.l1_s]
  exact Evt.f (ge_lt (by omega)) (Evt.ret (by simp [Lib.joinTail]))
 | d + 1, i, acc, hi, hl => by
  have hlt : i < t.fOuts.length := by omega
  have hx := ht.outs _ (List.getElem_mem hlt)
  have hol := outL_len hx
  have hg : gt t.fOuts (i : Int) = t.fOuts[i] := gt_eq (by simpa using hlt)
  have hr := rule_ok t.fOuts[i].fRule (by rw [hx.2]; rfl)
  have hd1 := dg_l7 (n := t.fOuts[i].fValue) (by omega)
  have hrl := ruleL_len t.fOuts[i].fRule 32 hr
  have c1 : (⟨#[32]⟩ : ByteArray) = mkB [32] := rfl
  have c2 : (⟨#[61]⟩ : ByteArray) = mkB [61] := rfl
  have hsw := swap_ev (ruleL t.fOuts[i].fRule [32]) (by omega)
  rw [sw_rule] at hsw
  have hrl2 := ruleL_len t.fOuts[i].fRule 95 hr
  refine Evt.s ?_
  simp only [spec_l3Text.l1_s, hg, c1, c2, mkB_append, mkB_size, List.length_append, List.length_cons, List.length_nil]
  refine Evt.t (int_lt hlt) (Evt.chk (leB_mk (by omega)) (Evt.chk (idx_ok hlt) (Evt.chk (idx_ok hlt) (Evt.bind (spec_l2Digits_ev t.fOuts[i].fValue (by omega) (by omega)) ?_))))
  simp only [mkB_append, mkB_size, List.length_append, List.length_cons, List.length_nil]
  refine Evt.chk (leB_mk (by omega)) (Evt.chk (leB_mk (by omega)) (Evt.bind (spec_l2Text_ev t.fOuts[i].fRule (h_t.2.2.2.2 _ (List.getElem_mem hlt)).2 (by rw [hx.2]; rfl)) (Evt.bind hsw ?_)))
  simp only [mkB_append, mkB_size, List.length_append, List.length_cons, List.length_nil]
  refine Evt.chk (leB_mk (by omega)) ?_
  rw [w64 hlt (by have := ht.outs4; omega)]
  refine (l3Text_l1 t h_t ht d (i + 1) _ (by omega) (by simp only [List.length_append, List.length_cons, List.length_nil]; omega)).to ?_
  have ed : t.fOuts.drop i = t.fOuts[i] :: t.fOuts.drop (i + 1) := List.drop_eq_getElem_cons hlt
  rw [ed, List.map_cons]
  unfold Lib.joinTail
  rw [List.map_cons, List.flatten_cons]
  unfold outL
  simp only [List.append_assoc, List.cons_append, List.nil_append]
def spec_l3Text_v (t : Tx) : ByteArray := mkB (txL t)
theorem spec_l3Text_ok (t : Tx) (h_t : smTx t) (ht : TxOK t) : Evt (fun k => spec_l3Text.f k t) (spec_l3Text_v t) := by
 have c0 : (⟨#[112, 97, 121]⟩ : ByteArray) = mkB [112, 97, 121] := rfl
 have c1 : (⟨#[106, 111, 105, 110, 32]⟩ : ByteArray) = mkB [106, 111, 105, 110, 32] := rfl
 have c2 : (⟨#[108, 101, 97, 118, 101, 32]⟩ : ByteArray) = mkB [108, 101, 97, 118, 101, 32] := rfl
 have hlt : 0 < t.fIns.length := ht.ins1
 have hins4 := ht.ins4
 have houts4 := ht.outs4
 have hx := refL_len (ht.ins _ (List.getElem_mem hlt))
 have hk := ht.kind
 -- what stands ahead
 have key : ∃ a : List UInt8, a.length ≤ 20 ∧ a = (bif t.fKind != 0 then kindW t.fKind ++ [32] ++ dgL t.fMember else kindW t.fKind) ∧ Evt (fun k => (bif (t.fKind != 0) then ((spec_l2Digits.f k t.fMember).bind fun t1698 => (Zk.chk (leB ((gt ([mkB [112, 97, 121], mkB [106, 111, 105, 110, 32], mkB [108, 101, 97, 118, 101, 32]] : List ByteArray) t.fKind).size + t1698.size) 9223372036854775807) (some ((gt ([mkB [112, 97, 121], mkB [106, 111, 105, 110, 32], mkB [108, 101, 97, 118, 101, 32]] : List ByteArray) t.fKind) ++ t1698)))) else some (gt ([mkB [112, 97, 121], mkB [106, 111, 105, 110, 32], mkB [108, 101, 97, 118, 101, 32]] : List ByteArray) t.fKind))) (mkB a) := by
  have h3 : t.fKind = 0 ∨ t.fKind = 1 ∨ t.fKind = 2 := by omega
  rcases h3 with h | h | h
  ·refine ⟨[112, 97, 121], by simp, by rw [h]; rfl, ?_⟩
   rw [h]
   exact Evt.f rfl (Evt.self _)
  ·have hm := ht.mem (by omega)
   have hd := dg_l3 (n := t.fMember) (by omega)
   refine ⟨[106, 111, 105, 110, 32] ++ dgL t.fMember, by simp; omega, by rw [h]; simp [kindW], ?_⟩
   rw [h]
   refine Evt.t rfl (Evt.bind (spec_l2Digits_ev t.fMember (by omega) (by omega)) ?_)
   show Evt (fun k => Zk.chk (leB ((mkB [106, 111, 105, 110, 32]).size + (mkB (dgL t.fMember)).size) 9223372036854775807) (some (mkB [106, 111, 105, 110, 32] ++ mkB (dgL t.fMember)))) _
   simp only [mkB_append, mkB_size]
   exact Evt.chk (leB_mk (by simp; omega)) (Evt.self _)
  ·have hm := ht.mem (by omega)
   have hd := dg_l3 (n := t.fMember) (by omega)
   refine ⟨[108, 101, 97, 118, 101, 32] ++ dgL t.fMember, by simp; omega, by rw [h]; simp [kindW], ?_⟩
   rw [h]
   refine Evt.t rfl (Evt.bind (spec_l2Digits_ev t.fMember (by omega) (by omega)) ?_)
   show Evt (fun k => Zk.chk (leB ((mkB [108, 101, 97, 118, 101, 32]).size + (mkB (dgL t.fMember)).size) 9223372036854775807) (some (mkB [108, 101, 97, 118, 101, 32] ++ mkB (dgL t.fMember)))) _
   simp only [mkB_append, mkB_size]
   exact Evt.chk (leB_mk (by simp; omega)) (Evt.self _)
 obtain ⟨a, hal, hae, he⟩ := key
 have hj := ins_len ht
 have ed : t.fIns = t.fIns[0] :: t.fIns.drop 1 := by simpa using List.drop_eq_getElem_cons hlt
 have ej : Lib.join (t.fIns.map refL) [43] = refL t.fIns[0] ++ Lib.joinTail [43] ((t.fIns.drop 1).map refL) := by
  conv => lhs; rw [ed]
  rw [List.map_cons, Lib.join_cons]
 have e0 := l3Text_ins t ht 0 a [32] hlt rfl (by omega) rfl (l3Text_l0 t ht (t.fIns.length - 1) 1 _ (by omega) (by omega) (by simp only [List.length_append, List.length_cons, List.length_nil]; omega))
 rw [List.append_assoc, ← ej] at e0
 have e1 := l3Text_l1 t h_t ht t.fOuts.length 0 (a ++ [32] ++ Lib.join (t.fIns.map refL) [43]) (by omega) (by simp only [List.length_append, List.length_cons, List.length_nil]; omega)
 unfold spec_l3Text.f
 simp only [c0, c1, c2]
 have hik : idxOk t.fKind ([mkB [112, 97, 121], mkB [106, 111, 105, 110, 32], mkB [108, 101, 97, 118, 101, 32]] : List ByteArray).length = true := by unfold idxOk; simp; omega
 refine Evt.chk hik (Evt.bind he (Evt.bind e0 (Evt.bind e1 (Evt.ret ?_))))
 unfold spec_l3Text_v
 rw [txL_eq, ← hae, List.drop_zero]
theorem spec_l3Text_ev (t : Tx) (h_t : smTx t) (hpre : (spec_l3Fault_v t != 0) = false) : Evt (fun k => spec_l3Text.f k t) (spec_l3Text_v t) := spec_l3Text_ok t h_t (tx_ok t hpre)
def spec_TxText_v (x0 : Tx) : TextResult := (bif ((spec_l3Fault_v x0) != 0) then (⟨(spec_l3Fault_v x0), (⟨#[]⟩ : ByteArray)⟩ : TextResult) else (bif (decide (300 < ((spec_l3Text_v x0).size : Int))) then (⟨2, (⟨#[]⟩ : ByteArray)⟩ : TextResult) else (⟨0, (spec_l3Text_v x0)⟩ : TextResult)))
theorem spec_TxText_ev (x0 : Tx) (h_x0 : smTx x0) : Evt (fun k => spec_TxText.f k x0) (spec_TxText_v x0) :=
 (Evt.bind (spec_l3Fault_ev x0 (h_x0)) (Evt.ifh (fun hc1 => (Evt.self _)) (fun hc1 => (Evt.bind (spec_l3Text_ev x0 (h_x0) (by first | assumption | (simp_all; omega) | (have hf0 := h_x0.2.2.1.1; have hf1 := h_x0.2.2.2.1; simp only [leB, decide_eq_true_eq, List.length_append, List.length_cons, List.length_nil]; omega))) (Evt.ifh (fun hc0 => (Evt.self _)) (fun hc0 => (Evt.self _)))))))
def spec_l2Copy_v (x0 : Rule) : Rule := (⟨([] : List Int) ++ x0.fKeys, x0.fNeed, x0.fAfter⟩ : Rule)
theorem spec_l2Copy_ev (x0 : Rule) (h_x0 : smRule x0) : Evt (fun k => spec_l2Copy.f k x0) (spec_l2Copy_v x0) :=
 (Evt.chk (by first | exact idx_ok (by omega) | exact idx_ok (by have hq := len_eq (by assumption); omega) | exact idx_found (by simp_all) | exact cut_ok (by omega) | exact or_ok (idx_ok (by omega)) | (refine or1 (fun hz => pre_ok (by simp at hz; omega) (by omega) (by omega))) | exact pre_ok (by omega) (by omega) (by omega) | (simp_all [idxOk, cutOk, leB]; done) | (simp_all [idxOk, cutOk, leB]; omega) | (simp [idxOk, cutOk, leB] at *; omega) | (have hf0 := h_x0.1.1; simp only [leB, decide_eq_true_eq, List.length_append, List.length_cons, List.length_nil]; omega)) (Evt.self _))
def spec_l4Copy_v (x0 : List Coin) : (List Coin) := ((List.range' 0 (x0.length - 0)).foldl (fun ac1 (i0 : Nat) => ((ac1 ++ ([(⟨(gt x0 (i0 : Int)).fRef, (⟨(gt x0 (i0 : Int)).fOut.fValue, (spec_l2Copy_v ((gt x0 (i0 : Int)).fOut.fRule))⟩ : Out), (gt x0 (i0 : Int)).fHeight, (gt x0 (i0 : Int)).fMined⟩ : Coin)] : List Coin)))) ([] : List Coin))
theorem spec_l4Copy_ev (x0 : List Coin) (h_x0 : (Lm smCoin) x0) : Evt (fun k => spec_l4Copy.f k x0) (spec_l4Copy_v x0) :=
 (Evt.bind (Evt.gatherL (L := (fun k ac i => spec_l4Copy.l0 x0 k ac i)) x0.length (by have := h_x0; first | (have := this.1; omega) | omega) (fun ac1 (i0 : Nat) => ((ac1 ++ ([(⟨(gt x0 (i0 : Int)).fRef, (⟨(gt x0 (i0 : Int)).fOut.fValue, (spec_l2Copy_v ((gt x0 (i0 : Int)).fOut.fRule))⟩ : Out), (gt x0 (i0 : Int)).fHeight, (gt x0 (i0 : Int)).fMined⟩ : Coin)] : List Coin)))) (fun i0 hi1 ac1 hgl => (by first | (simp only [List.length_append, List.length_cons, List.length_nil]; omega) | omega)) (fun i0 hi1 ac1 hgl o hg => by
 have hbn : x0.length ≤ 1048576 := (by have := h_x0; first | (have := this.1; omega) | omega)
 simp only [spec_l4Copy.l0_s]
 exact Evt.t (int_lt hi1) (Evt.chk (by first | (simp only [leB, decide_eq_true_eq, List.length_append, List.length_cons, List.length_nil]; omega) | exact idx_ok (by omega) | exact idx_ok (by have hq := len_eq (by assumption); omega) | exact idx_found (by simp_all) | exact cut_ok (by omega) | exact or_ok (idx_ok (by omega)) | (refine or1 (fun hz => pre_ok (by simp at hz; omega) (by omega) (by omega))) | exact pre_ok (by omega) (by omega) (by omega) | (simp_all [idxOk, cutOk, leB]; done) | (simp_all [idxOk, cutOk, leB]; omega) | (simp [idxOk, cutOk, leB] at *; omega) | (have hf0 := h_x0.1; simp only [leB, decide_eq_true_eq, List.length_append, List.length_cons, List.length_nil]; omega)) (Evt.bind (spec_l2Copy_ev ((gt x0 (i0 : Int)).fOut.fRule) ((((h_x0).2 _ (gt_mem (by first | omega | (have hq := len_eq (by assumption); omega) | (have hf0 := h_x0.1; simp only [leB, decide_eq_true_eq, List.length_append, List.length_cons, List.length_nil]; omega)))).2.1).2)) (Evt.chk (by first | (simp only [leB, decide_eq_true_eq, List.length_append, List.length_cons, List.length_nil]; omega) | exact idx_ok (by omega) | exact idx_ok (by have hq := len_eq (by assumption); omega) | exact idx_found (by simp_all) | exact cut_ok (by omega) | exact or_ok (idx_ok (by omega)) | (refine or1 (fun hz => pre_ok (by simp at hz; omega) (by omega) (by omega))) | exact pre_ok (by omega) (by omega) (by omega) | (simp_all [idxOk, cutOk, leB]; done) | (simp_all [idxOk, cutOk, leB]; omega) | (simp [idxOk, cutOk, leB] at *; omega) | (have hf0 := h_x0.1; simp only [leB, decide_eq_true_eq, List.length_append, List.length_cons, List.length_nil]; omega)) hg)))) (fun j ac hj => by
 simp only [spec_l4Copy.l0_s]
 exact Evt.f (ge_lt hj) (Evt.self _))) (Evt.self _))
theorem l2Copy_id (r : Rule) : spec_l2Copy_v r = r := by simp [spec_l2Copy_v]
theorem l4Copy_id (x0 : List Coin) : spec_l4Copy_v x0 = x0 := by
 have h := range_foldl x0 (fun ac (x : Coin) => ac ++ [(⟨x.fRef, ⟨x.fOut.fValue, spec_l2Copy_v x.fOut.fRule⟩, x.fHeight, x.fMined⟩ : Coin)]) []
 refine Eq.trans h ?_
 rw [fold_map]
 simp only [l2Copy_id]
 simp
def spec_l5Spent_v (x0 : List Coin) (x1 : Tx) : (List Coin) × Bool := ((spec_l4Copy_v ((List.range' 0 (x0.length - 0)).foldl (fun ac1 (i0 : Nat) => (bif (spec_l3Among_v x1.fIns ((gt x0 (i0 : Int)).fRef)) then ((ac1 ++ ([(gt x0 (i0 : Int))] : List Coin))) else (ac1))) ([] : List Coin))), ((((List.range' 0 (x0.length - 0)).foldl (fun ac1 (i0 : Nat) => (bif (spec_l3Among_v x1.fIns ((gt x0 (i0 : Int)).fRef)) then ((ac1 ++ ([(gt x0 (i0 : Int))] : List Coin))) else (ac1))) ([] : List Coin)).length : Int) == (x1.fIns.length : Int)))
theorem spec_l5Spent_ev (x0 : List Coin) (x1 : Tx) (h_x0 : (Lm smCoin) x0) (h_x1 : smTx x1) : Evt (fun k => spec_l5Spent.f k x0 x1) (spec_l5Spent_v x0 x1) :=
 (Evt.bind (Evt.gatherL (L := (fun k ac i => spec_l5Spent.l0 x0 x1 k ac i)) x0.length (by have := h_x0; first | (have := this.1; omega) | omega) (fun ac1 (i0 : Nat) => (bif (spec_l3Among_v x1.fIns ((gt x0 (i0 : Int)).fRef)) then ((ac1 ++ ([(gt x0 (i0 : Int))] : List Coin))) else (ac1))) (fun i0 hi2 ac1 hgl => (len_bif (by first | (simp only [List.length_append, List.length_cons, List.length_nil]; omega) | omega) (by first | (simp only [List.length_append, List.length_cons, List.length_nil]; omega) | omega))) (fun i0 hi2 ac1 hgl o hg => by
 have hbn : x0.length ≤ 1048576 := (by have := h_x0; first | (have := this.1; omega) | omega)
 simp only [spec_l5Spent.l0_s]
 exact Evt.t (int_lt hi2) (Evt.chk (by first | (simp only [leB, decide_eq_true_eq, List.length_append, List.length_cons, List.length_nil]; omega) | exact idx_ok (by omega) | exact idx_ok (by have hq := len_eq (by assumption); omega) | exact idx_found (by simp_all) | exact cut_ok (by omega) | exact or_ok (idx_ok (by omega)) | (refine or1 (fun hz => pre_ok (by simp at hz; omega) (by omega) (by omega))) | exact pre_ok (by omega) (by omega) (by omega) | (simp_all [idxOk, cutOk, leB]; done) | (simp_all [idxOk, cutOk, leB]; omega) | (simp [idxOk, cutOk, leB] at *; omega) | (have hf0 := h_x0.1; have hf1 := h_x1.2.2.1.1; have hf2 := h_x1.2.2.2.1; simp only [leB, decide_eq_true_eq, List.length_append, List.length_cons, List.length_nil]; omega)) (Evt.bind (spec_l3Among_ev x1.fIns ((gt x0 (i0 : Int)).fRef) (h_x1.2.2.1)) (Evt.cases (fun hc1 => (by rw [hc1] at hg; exact (Evt.chk (by first | (simp only [leB, decide_eq_true_eq, List.length_append, List.length_cons, List.length_nil]; omega) | exact idx_ok (by omega) | exact idx_ok (by have hq := len_eq (by assumption); omega) | exact idx_found (by simp_all) | exact cut_ok (by omega) | exact or_ok (idx_ok (by omega)) | (refine or1 (fun hz => pre_ok (by simp at hz; omega) (by omega) (by omega))) | exact pre_ok (by omega) (by omega) (by omega) | (simp_all [idxOk, cutOk, leB]; done) | (simp_all [idxOk, cutOk, leB]; omega) | (simp [idxOk, cutOk, leB] at *; omega) | (have hf0 := h_x0.1; have hf1 := h_x1.2.2.1.1; have hf2 := h_x1.2.2.2.1; simp only [leB, decide_eq_true_eq, List.length_append, List.length_cons, List.length_nil]; omega)) (Evt.chk (by first | (simp only [leB, decide_eq_true_eq, List.length_append, List.length_cons, List.length_nil]; omega) | exact idx_ok (by omega) | exact idx_ok (by have hq := len_eq (by assumption); omega) | exact idx_found (by simp_all) | exact cut_ok (by omega) | exact or_ok (idx_ok (by omega)) | (refine or1 (fun hz => pre_ok (by simp at hz; omega) (by omega) (by omega))) | exact pre_ok (by omega) (by omega) (by omega) | (simp_all [idxOk, cutOk, leB]; done) | (simp_all [idxOk, cutOk, leB]; omega) | (simp [idxOk, cutOk, leB] at *; omega) | (have hf0 := h_x0.1; have hf1 := h_x1.2.2.1.1; have hf2 := h_x1.2.2.2.1; simp only [leB, decide_eq_true_eq, List.length_append, List.length_cons, List.length_nil]; omega)) hg)))) (fun hc1 => (by rw [hc1] at hg; exact hg)))))) (fun j ac hj => by
 simp only [spec_l5Spent.l0_s]
 exact Evt.f (ge_lt hj) (Evt.self _))) (Evt.bind (spec_l4Copy_ev ((List.range' 0 (x0.length - 0)).foldl (fun ac1 (i0 : Nat) => (bif (spec_l3Among_v x1.fIns ((gt x0 (i0 : Int)).fRef)) then ((ac1 ++ ([(gt x0 (i0 : Int))] : List Coin))) else (ac1))) ([] : List Coin)) ((Lm_gath x0 h_x0 _))) (Evt.self _)))
def spec_l5Ripe_v (x0 : Coin) (x1 : Int) : Bool := ((!x0.fMined) || (decide ((wrap64 (x0.fHeight + 2)) ≤ x1)))
theorem spec_l5Ripe_ev (x0 : Coin) (x1 : Int) (h_x0 : smCoin x0) : Evt (fun k => spec_l5Ripe.f k x0 x1) (spec_l5Ripe_v x0 x1) :=
 (Evt.self _)
def spec_l1Has_v (x0 : Ledger) (x1 : Int) (x2 : Int) : Bool := (spec_l1Signed_v x0.fSigns (⟨x1, x2⟩ : Sign))
theorem spec_l1Has_ev (x0 : Ledger) (x1 : Int) (x2 : Int) (h_x0 : smLedger x0) : Evt (fun k => spec_l1Has.f k x0 x1 x2) (spec_l1Has_v x0 x1 x2) :=
 (Evt.bind (spec_l1Signed_ev x0.fSigns (⟨x1, x2⟩ : Sign) (h_x0.2)) (Evt.self _))
def spec_l2Met_v (x0 : Ledger) (x1 : Rule) (x2 : Int) (x3 : Int) : Int := (bif (decide (x3 < x1.fAfter)) then 9 else (bif (decide (((List.range' 0 (x1.fKeys.length - 0)).foldl (fun ac1 (i0 : Nat) => (bif (spec_l1Has_v x0 (gt x1.fKeys (i0 : Int)) x2) then ((wrap64 (ac1 + 1))) else (ac1))) 0) < x1.fNeed)) then 6 else 0))
theorem spec_l2Met_ev (x0 : Ledger) (x1 : Rule) (x2 : Int) (x3 : Int) (h_x0 : smLedger x0) (h_x1 : smRule x1) : Evt (fun k => spec_l2Met.f k x0 x1 x2 x3) (spec_l2Met_v x0 x1 x2 x3) :=
 (Evt.ifh (fun hc3 => (Evt.self _)) (fun hc3 => (Evt.bind (Evt.gather (L := (fun k ac i => spec_l2Met.l0 x0 x1 x2 k ac i)) 0 x1.fKeys.length (by have := h_x1.1; first | (have := this.1; omega) | omega) (fun ac1 (i0 : Nat) => (bif (spec_l1Has_v x0 (gt x1.fKeys (i0 : Int)) x2) then ((wrap64 (ac1 + 1))) else (ac1))) (fun i0 hs2 hi2 ac1 o hg => by
 have hbn : x1.fKeys.length ≤ 9223372036854775807 := (by have := h_x1.1; first | (have := this.1; omega) | omega)
 simp only [spec_l2Met.l0_s]
 exact Evt.t (int_lt hi2) (Evt.chk (by first | (simp only [leB, decide_eq_true_eq, List.length_append, List.length_cons, List.length_nil]; omega) | exact idx_ok (by omega) | exact idx_ok (by have hq := len_eq (by assumption); omega) | exact idx_found (by simp_all) | exact cut_ok (by omega) | exact or_ok (idx_ok (by omega)) | (refine or1 (fun hz => pre_ok (by simp at hz; omega) (by omega) (by omega))) | exact pre_ok (by omega) (by omega) (by omega) | (simp_all [idxOk, cutOk, leB]; done) | (simp_all [idxOk, cutOk, leB]; omega) | (simp [idxOk, cutOk, leB] at *; omega) | (have hf0 := h_x0.1.1; have hf1 := h_x0.2.1; have hf2 := h_x1.1.1; simp only [leB, decide_eq_true_eq, List.length_append, List.length_cons, List.length_nil]; omega)) (Evt.bind (spec_l1Has_ev x0 (gt x1.fKeys (i0 : Int)) x2 (h_x0)) (Evt.cases (fun hc1 => (by rw [hc1] at hg; exact hg)) (fun hc1 => (by rw [hc1] at hg; exact hg)))))) (fun j ac hj => by
 simp only [spec_l2Met.l0_s]
 exact Evt.f (ge_lt hj) (Evt.self _)) 0) (Evt.ifh (fun hc2 => (Evt.self _)) (fun hc2 => (Evt.self _))))))
def spec_l4Sum_v (x0 : List Coin) : Int := ((List.range' 0 (x0.length - 0)).foldl (fun ac1 (i0 : Nat) => ((wrap64 (ac1 + ((gt x0 (i0 : Int)).fOut.fValue))))) 0)
theorem spec_l4Sum_ev (x0 : List Coin) (h_x0 : (Lm smCoin) x0) : Evt (fun k => spec_l4Sum.f k x0) (spec_l4Sum_v x0) :=
 (Evt.bind (Evt.gather (L := (fun k ac i => spec_l4Sum.l0 x0 k ac i)) 0 x0.length (by have := h_x0; first | (have := this.1; omega) | omega) (fun ac1 (i0 : Nat) => ((wrap64 (ac1 + ((gt x0 (i0 : Int)).fOut.fValue))))) (fun i0 hs1 hi1 ac1 o hg => by
 have hbn : x0.length ≤ 9223372036854775807 := (by have := h_x0; first | (have := this.1; omega) | omega)
 simp only [spec_l4Sum.l0_s]
 exact Evt.t (int_lt hi1) (Evt.chk (by first | (simp only [leB, decide_eq_true_eq, List.length_append, List.length_cons, List.length_nil]; omega) | exact idx_ok (by omega) | exact idx_ok (by have hq := len_eq (by assumption); omega) | exact idx_found (by simp_all) | exact cut_ok (by omega) | exact or_ok (idx_ok (by omega)) | (refine or1 (fun hz => pre_ok (by simp at hz; omega) (by omega) (by omega))) | exact pre_ok (by omega) (by omega) (by omega) | (simp_all [idxOk, cutOk, leB]; done) | (simp_all [idxOk, cutOk, leB]; omega) | (simp [idxOk, cutOk, leB] at *; omega) | (have hf0 := h_x0.1; simp only [leB, decide_eq_true_eq, List.length_append, List.length_cons, List.length_nil]; omega)) hg)) (fun j ac hj => by
 simp only [spec_l4Sum.l0_s]
 exact Evt.f (ge_lt hj) (Evt.self _)) 0) (Evt.self _))
def spec_l3Sum_v (x0 : Tx) : Int := ((List.range' 0 (x0.fOuts.length - 0)).foldl (fun ac1 (i0 : Nat) => ((wrap64 (ac1 + ((gt x0.fOuts (i0 : Int)).fValue))))) 0)
theorem spec_l3Sum_ev (x0 : Tx) (h_x0 : smTx x0) : Evt (fun k => spec_l3Sum.f k x0) (spec_l3Sum_v x0) :=
 (Evt.bind (Evt.gather (L := (fun k ac i => spec_l3Sum.l0 x0 k ac i)) 0 x0.fOuts.length (by have := h_x0.2.2.2; first | (have := this.1; omega) | omega) (fun ac1 (i0 : Nat) => ((wrap64 (ac1 + ((gt x0.fOuts (i0 : Int)).fValue))))) (fun i0 hs1 hi1 ac1 o hg => by
 have hbn : x0.fOuts.length ≤ 9223372036854775807 := (by have := h_x0.2.2.2; first | (have := this.1; omega) | omega)
 simp only [spec_l3Sum.l0_s]
 exact Evt.t (int_lt hi1) (Evt.chk (by first | (simp only [leB, decide_eq_true_eq, List.length_append, List.length_cons, List.length_nil]; omega) | exact idx_ok (by omega) | exact idx_ok (by have hq := len_eq (by assumption); omega) | exact idx_found (by simp_all) | exact cut_ok (by omega) | exact or_ok (idx_ok (by omega)) | (refine or1 (fun hz => pre_ok (by simp at hz; omega) (by omega) (by omega))) | exact pre_ok (by omega) (by omega) (by omega) | (simp_all [idxOk, cutOk, leB]; done) | (simp_all [idxOk, cutOk, leB]; omega) | (simp [idxOk, cutOk, leB] at *; omega) | (have hf0 := h_x0.2.2.1.1; have hf1 := h_x0.2.2.2.1; simp only [leB, decide_eq_true_eq, List.length_append, List.length_cons, List.length_nil]; omega)) hg)) (fun j ac hj => by
 simp only [spec_l3Sum.l0_s]
 exact Evt.f (ge_lt hj) (Evt.self _)) 0) (Evt.self _))
def impl_within_v (x0 : Int) (x1 : Int) (x2 : Int) : Bool := ((decide (x1 ≤ x0)) && (decide (x0 ≤ x2)))
theorem impl_within_ev (x0 : Int) (x1 : Int) (x2 : Int)  : Evt (fun k => impl_within.f k x0 x1 x2) (impl_within_v x0 x1 x2) :=
 (Evt.self _)
def impl_isId_v (x0 : Int) : Bool := (impl_within_v x0 1 60)
theorem impl_isId_ev (x0 : Int)  : Evt (fun k => impl_isId.f k x0) (impl_isId_v x0) :=
 (Evt.bind (impl_within_ev x0 1 60) (Evt.self _))
def impl_isRef_v (x0 : Ref) : Bool := ((impl_isId_v x0.fTx) && (bif (impl_isId_v x0.fTx) then (impl_within_v x0.fAt 0 3) else default))
theorem impl_isRef_ev (x0 : Ref)  : Evt (fun k => impl_isRef.f k x0) (impl_isRef_v x0) :=
 (Evt.bind (impl_isId_ev x0.fTx) (Evt.bind (Evt.ifh (fun _ => (impl_within_ev x0.fAt 0 3)) (fun _ => Evt.self _)) (Evt.self _)))
def impl_isHeight_v (x0 : Int) : Bool := (impl_within_v x0 0 999)
theorem impl_isHeight_ev (x0 : Int)  : Evt (fun k => impl_isHeight.f k x0) (impl_isHeight_v x0) :=
 (Evt.bind (impl_within_ev x0 0 999) (Evt.self _))
def impl_isKey_v (x0 : Int) : Bool := (impl_within_v x0 1 999)
theorem impl_isKey_ev (x0 : Int)  : Evt (fun k => impl_isKey.f k x0) (impl_isKey_v x0) :=
 (Evt.bind (impl_within_ev x0 1 999) (Evt.self _))
def impl_areKeys_1_v (x0 : Int) : Bool := (!(impl_isKey_v x0))
theorem impl_areKeys_1_ev (x0 : Int)  : Evt (fun k => impl_areKeys_1.f k x0) (impl_areKeys_1_v x0) :=
 (Evt.bind (impl_isKey_ev x0) (Evt.self _))
def slices_IndexFunc_int64_v (x0 : List Int) : Int := (onO ((List.range' 0 (x0.length - 0)).findSome? (fun (i0 : Nat) => (bif (impl_areKeys_1_v (gt x0 (i0 : Int))) then (some (i0 : Int)) else none))) (fun r => r) (-1))
theorem slices_IndexFunc_int64_ev (x0 : List Int) (h_x0 : (Lm tr) x0) : Evt (fun k => slices_IndexFunc_int64.f k x0) (slices_IndexFunc_int64_v x0) :=
 (Evt.loop (r' := fun r => r) (Evt.srch (L := (fun k i => slices_IndexFunc_int64.l0 x0 k i)) 0 x0.length (by have := h_x0; first | (have := this.1; omega) | omega) (fun (i0 : Nat) => (bif (impl_areKeys_1_v (gt x0 (i0 : Int))) then (some (i0 : Int)) else none)) (fun i0 hs2 hi2 => by
 have hbn : x0.length ≤ 9223372036854775807 := (by have := h_x0; first | (have := this.1; omega) | omega)
 simp only [slices_IndexFunc_int64.l0_s]
 exact Evt_t2 (int_lt hi2) (StE.chk (by first | exact idx_ok (by omega) | exact idx_ok (by have hq := len_eq (by assumption); omega) | exact idx_found (show (0 : Int) ≤ (i0 : Int) by simp_all) | exact cut_ok (by omega) | exact or_ok (idx_ok (by omega)) | (refine or1 (fun hz => pre_ok (by simp at hz; omega) (by omega) (by omega))) | exact pre_ok (by omega) (by omega) (by omega) | (simp_all [idxOk, cutOk, leB]; done) | (simp_all [idxOk, cutOk, leB]; omega) | (simp [idxOk, cutOk, leB] at *; omega) | (have hf0 := h_x0.1; simp only [leB, decide_eq_true_eq, List.length_append, List.length_cons, List.length_nil]; omega)) (StE.bind (impl_areKeys_1_ev (gt x0 (i0 : Int))) (StE.ifh (fun hc1 => (StE.ret _)) (fun hc1 => StE.next))))) (fun j hj => by
 simp only [slices_IndexFunc_int64.l0_s]
 exact Evt.f (ge_lt hj) (Evt.self _))) (fun _ => rfl) (Evt.self _))
def slices_ContainsFunc_int64_v (x0 : List Int) : Bool := (decide (0 ≤ (slices_IndexFunc_int64_v x0)))
theorem slices_ContainsFunc_int64_ev (x0 : List Int) (h_x0 : (Lm tr) x0) : Evt (fun k => slices_ContainsFunc_int64.f k x0) (slices_ContainsFunc_int64_v x0) :=
 (Evt.bind (slices_IndexFunc_int64_ev x0 (h_x0)) (Evt.self _))
theorem slices_ContainsFunc_int64_any (x0 : List Int) : slices_ContainsFunc_int64_v x0 = (List.range' 0 (x0.length - 0)).any (fun (i0 : Nat) => (impl_areKeys_1_v (gt x0 (i0 : Int)))) := idx_any _ _
def impl_areKeys_v (x0 : List Int) : Bool := (!(slices_ContainsFunc_int64_v x0))
theorem impl_areKeys_ev (x0 : List Int) (h_x0 : (Lm tr) x0) : Evt (fun k => impl_areKeys.f k x0) (impl_areKeys_v x0) :=
 (Evt.bind (slices_ContainsFunc_int64_ev x0 (h_x0)) (Evt.self _))
def impl_isRising_v (x0 : List Int) : Bool := (onO ((List.range' 1 (x0.length - 1)).findSome? (fun (i0 : Nat) => (bif (decide ((gt x0 (i0 : Int)) ≤ (gt x0 (wrap64 ((i0 : Int) - 1))))) then (some false) else none))) (fun r => r) true)
theorem impl_isRising_ev (x0 : List Int) (h_x0 : (Lm tr) x0) : Evt (fun k => impl_isRising.f k x0) (impl_isRising_v x0) :=
 (Evt.loop (r' := fun r => r) (Evt.srch (L := (fun k i => impl_isRising.l0 x0 k i)) 1 x0.length (by have := h_x0; first | (have := this.1; omega) | omega) (fun (i0 : Nat) => (bif (decide ((gt x0 (i0 : Int)) ≤ (gt x0 (wrap64 ((i0 : Int) - 1))))) then (some false) else none)) (fun i0 hs2 hi2 => by
 have hbn : x0.length ≤ 9223372036854775807 := (by have := h_x0; first | (have := this.1; omega) | omega)
 simp only [impl_isRising.l0_s]
 exact Evt_t2 (int_lt hi2) (StE.chk (by first | exact idx_ok (by omega) | exact idx_ok (by have hq := len_eq (by assumption); omega) | exact idx_found (show (0 : Int) ≤ (i0 : Int) by simp_all) | exact cut_ok (by omega) | exact or_ok (idx_ok (by omega)) | (refine or1 (fun hz => pre_ok (by simp at hz; omega) (by omega) (by omega))) | exact pre_ok (by omega) (by omega) (by omega) | (simp_all [idxOk, cutOk, leB]; done) | (simp_all [idxOk, cutOk, leB]; omega) | (simp [idxOk, cutOk, leB] at *; omega) | (have hf0 := h_x0.1; simp only [leB, decide_eq_true_eq, List.length_append, List.length_cons, List.length_nil]; omega)) (StE.chk (by first | exact idx_ok (by omega) | exact idx_ok (by have hq := len_eq (by assumption); omega) | exact idx_found (show (0 : Int) ≤ (wrap64 ((i0 : Int) - 1)) by simp_all) | exact cut_ok (by omega) | exact or_ok (idx_ok (by omega)) | (refine or1 (fun hz => pre_ok (by simp at hz; omega) (by omega) (by omega))) | exact pre_ok (by omega) (by omega) (by omega) | (simp_all [idxOk, cutOk, leB]; done) | (simp_all [idxOk, cutOk, leB]; omega) | (simp [idxOk, cutOk, leB] at *; omega) | (have hf0 := h_x0.1; simp only [leB, decide_eq_true_eq, List.length_append, List.length_cons, List.length_nil]; omega)) (StE.ifh (fun hc1 => (StE.ret _)) (fun hc1 => StE.next))))) (fun j hj => by
 simp only [impl_isRising.l0_s]
 exact Evt.f (ge_lt hj) (Evt.self _))) (fun _ => rfl) (Evt.self _))
def impl_RuleFault_v (x0 : Rule) : Int := (bif !(impl_within_v (x0.fKeys.length : Int) 1 3) then 2 else (bif (((!(impl_areKeys_v x0.fKeys)) || (!(bif (!(!(impl_areKeys_v x0.fKeys))) then (impl_within_v x0.fNeed 1 (x0.fKeys.length : Int)) else default))) || (!(bif (!((!(impl_areKeys_v x0.fKeys)) || (!(bif (!(!(impl_areKeys_v x0.fKeys))) then (impl_within_v x0.fNeed 1 (x0.fKeys.length : Int)) else default)))) then (impl_isHeight_v x0.fAfter) else default))) then 3 else (bif !(impl_isRising_v x0.fKeys) then 1 else 0)))
theorem impl_RuleFault_ev (x0 : Rule) (h_x0 : smRule x0) : Evt (fun k => impl_RuleFault.f k x0) (impl_RuleFault_v x0) :=
 (Evt.bind (impl_within_ev (x0.fKeys.length : Int) 1 3) (Evt.ifh (fun hc2 => (Evt.self _)) (fun hc2 => (Evt.bind (impl_areKeys_ev x0.fKeys (h_x0.1)) (Evt.bind (Evt.ifh (fun _ => (impl_within_ev x0.fNeed 1 (x0.fKeys.length : Int))) (fun _ => Evt.self _)) (Evt.bind (Evt.ifh (fun _ => (impl_isHeight_ev x0.fAfter)) (fun _ => Evt.self _)) (Evt.ifh (fun hc1 => (Evt.self _)) (fun hc1 => (Evt.bind (impl_isRising_ev x0.fKeys (h_x0.1)) (Evt.ifh (fun hc0 => (Evt.self _)) (fun hc0 => (Evt.self _))))))))))))
theorem ruleFault_same (x0 : Rule) : impl_RuleFault_v x0 = spec_l2Fault_v x0 := by
 simp only [impl_RuleFault_v, spec_l2Fault_v, impl_areKeys_v, slices_ContainsFunc_int64_any, impl_areKeys_1_v, impl_isKey_v, spec_l1Key_v, impl_within_v, spec_l1In_v, impl_isHeight_v, spec_l2Height_v, impl_isRising_v, found_any]
 generalize (List.range' 0 (x0.fKeys.length - 0)).any _ = a
 generalize (List.range' 1 (x0.fKeys.length - 1)).any _ = b
 generalize (decide (1 ≤ x0.fNeed) && decide (x0.fNeed ≤ (x0.fKeys.length : Int))) = c
 generalize (decide (0 ≤ x0.fAfter) && decide (x0.fAfter ≤ 999)) = d
 generalize (decide (1 ≤ (x0.fKeys.length : Int)) && decide ((x0.fKeys.length : Int) ≤ 3)) = e
 cases a <;> cases b <;> cases c <;> cases d <;> cases e <;> rfl
def cmp_isNaN_int64_v (x0 : Int) : Bool := (x0 != x0)
theorem cmp_isNaN_int64_ev (x0 : Int)  : Evt (fun k => cmp_isNaN_int64.f k x0) (cmp_isNaN_int64_v x0) :=
 (Evt.self _)
def cmp_Compare_int64_v (x0 : Int) (x1 : Int) : Int := (bif (cmp_isNaN_int64_v x0) then (bif (cmp_isNaN_int64_v x1) then 0 else (-1)) else (bif (cmp_isNaN_int64_v x1) then 1 else (bif (decide (x0 < x1)) then (-1) else (bif (decide (x1 < x0)) then 1 else 0))))
theorem cmp_Compare_int64_ev (x0 : Int) (x1 : Int)  : Evt (fun k => cmp_Compare_int64.f k x0 x1) (cmp_Compare_int64_v x0 x1) :=
 (Evt.bind (cmp_isNaN_int64_ev x0) (Evt.bind (cmp_isNaN_int64_ev x1) (Evt.ifh (fun hc4 => (Evt.ifh (fun hc0 => (Evt.self _)) (fun hc0 => (Evt.self _)))) (fun hc4 => (Evt.ifh (fun hc3 => (Evt.self _)) (fun hc3 => (Evt.ifh (fun hc2 => (Evt.self _)) (fun hc2 => (Evt.ifh (fun hc1 => (Evt.self _)) (fun hc1 => (Evt.self _)))))))))))
def cmp_Or_int_v (x0 : List Int) : Int := (onO ((List.range' 0 (x0.length - 0)).findSome? (fun (i0 : Nat) => (bif ((gt x0 (i0 : Int)) != 0) then (some (gt x0 (i0 : Int))) else none))) (fun r => r) 0)
theorem cmp_Or_int_ev (x0 : List Int) (h_x0 : (Lm tr) x0) : Evt (fun k => cmp_Or_int.f k x0) (cmp_Or_int_v x0) :=
 (Evt.loop (r' := fun r => r) (Evt.srch (L := (fun k i => cmp_Or_int.l0 x0 k i)) 0 x0.length (by have := h_x0; first | (have := this.1; omega) | omega) (fun (i0 : Nat) => (bif ((gt x0 (i0 : Int)) != 0) then (some (gt x0 (i0 : Int))) else none)) (fun i0 hs2 hi2 => by
 have hbn : x0.length ≤ 9223372036854775807 := (by have := h_x0; first | (have := this.1; omega) | omega)
 simp only [cmp_Or_int.l0_s]
 exact Evt_t2 (int_lt hi2) (StE.chk (by first | exact idx_ok (by omega) | exact idx_ok (by have hq := len_eq (by assumption); omega) | exact idx_found (show (0 : Int) ≤ (i0 : Int) by simp_all) | exact cut_ok (by omega) | exact or_ok (idx_ok (by omega)) | (refine or1 (fun hz => pre_ok (by simp at hz; omega) (by omega) (by omega))) | exact pre_ok (by omega) (by omega) (by omega) | (simp_all [idxOk, cutOk, leB]; done) | (simp_all [idxOk, cutOk, leB]; omega) | (simp [idxOk, cutOk, leB] at *; omega) | (have hf0 := h_x0.1; simp only [leB, decide_eq_true_eq, List.length_append, List.length_cons, List.length_nil]; omega)) (StE.ifh (fun hc1 => (StE.ret _)) (fun hc1 => StE.next)))) (fun j hj => by
 simp only [cmp_Or_int.l0_s]
 exact Evt.f (ge_lt hj) (Evt.self _))) (fun _ => rfl) (Evt.self _))
def impl_compareRefs_v (x0 : Ref) (x1 : Ref) : Int := (cmp_Or_int_v ([(cmp_Compare_int64_v x0.fTx x1.fTx), (cmp_Compare_int64_v x0.fAt x1.fAt)] : List Int))
theorem impl_compareRefs_ev (x0 : Ref) (x1 : Ref)  : Evt (fun k => impl_compareRefs.f k x0 x1) (impl_compareRefs_v x0 x1) :=
 (Evt.bind (cmp_Compare_int64_ev x0.fTx x1.fTx) (Evt.bind (cmp_Compare_int64_ev x0.fAt x1.fAt) (Evt.bind (cmp_Or_int_ev ([(cmp_Compare_int64_v x0.fTx x1.fTx), (cmp_Compare_int64_v x0.fAt x1.fAt)] : List Int) ((⟨by simp, fun _ _ => trivial⟩ : Lm tr ([(cmp_Compare_int64_v x0.fTx x1.fTx), (cmp_Compare_int64_v x0.fAt x1.fAt)] : List Int)))) (Evt.self _))))
def impl_CoinsFault_v (x0 : List Coin) : Int := (bif (decide (40 < (x0.length : Int))) then 2 else (onO ((List.range' 0 (x0.length - 0)).findSome? (fun (i0 : Nat) => (bif (((!(impl_isRef_v ((gt x0 (i0 : Int)).fRef))) || (!(bif (!(!(impl_isRef_v ((gt x0 (i0 : Int)).fRef)))) then (impl_isHeight_v ((gt x0 (i0 : Int)).fHeight)) else default))) || (!(bif (!((!(impl_isRef_v ((gt x0 (i0 : Int)).fRef))) || (!(bif (!(!(impl_isRef_v ((gt x0 (i0 : Int)).fRef)))) then (impl_isHeight_v ((gt x0 (i0 : Int)).fHeight)) else default)))) then (impl_within_v ((gt x0 (i0 : Int)).fOut.fValue) 1 1000000) else default))) then (some 3) else (bif ((impl_RuleFault_v ((gt x0 (i0 : Int)).fOut.fRule)) != 0) then (some (impl_RuleFault_v ((gt x0 (i0 : Int)).fOut.fRule))) else (bif ((decide (0 < (i0 : Int))) && (decide (0 ≤ (bif (decide (0 < (i0 : Int))) then (impl_compareRefs_v ((gt x0 (wrap64 ((i0 : Int) - 1))).fRef) ((gt x0 (i0 : Int)).fRef)) else default)))) then (some 1) else none))))) (fun r => r) 0))
theorem impl_CoinsFault_ev (x0 : List Coin) (h_x0 : (Lm smCoin) x0) : Evt (fun k => impl_CoinsFault.f k x0) (impl_CoinsFault_v x0) :=
 (Evt.ifh (fun hc4 => (Evt.self _)) (fun hc4 => (Evt.loop (r' := fun r => r) (Evt.srch (L := (fun k i => impl_CoinsFault.l0 x0 k i)) 0 x0.length (by have := h_x0; first | (have := this.1; omega) | omega) (fun (i0 : Nat) => (bif (((!(impl_isRef_v ((gt x0 (i0 : Int)).fRef))) || (!(bif (!(!(impl_isRef_v ((gt x0 (i0 : Int)).fRef)))) then (impl_isHeight_v ((gt x0 (i0 : Int)).fHeight)) else default))) || (!(bif (!((!(impl_isRef_v ((gt x0 (i0 : Int)).fRef))) || (!(bif (!(!(impl_isRef_v ((gt x0 (i0 : Int)).fRef)))) then (impl_isHeight_v ((gt x0 (i0 : Int)).fHeight)) else default)))) then (impl_within_v ((gt x0 (i0 : Int)).fOut.fValue) 1 1000000) else default))) then (some 3) else (bif ((impl_RuleFault_v ((gt x0 (i0 : Int)).fOut.fRule)) != 0) then (some (impl_RuleFault_v ((gt x0 (i0 : Int)).fOut.fRule))) else (bif ((decide (0 < (i0 : Int))) && (decide (0 ≤ (bif (decide (0 < (i0 : Int))) then (impl_compareRefs_v ((gt x0 (wrap64 ((i0 : Int) - 1))).fRef) ((gt x0 (i0 : Int)).fRef)) else default)))) then (some 1) else none)))) (fun i0 hs4 hi4 => by
 have hbn : x0.length ≤ 9223372036854775807 := (by have := h_x0; first | (have := this.1; omega) | omega)
 simp only [impl_CoinsFault.l0_s]
 exact Evt_t2 (int_lt hi4) (StE.chk (by first | exact idx_ok (by omega) | exact idx_ok (by have hq := len_eq (by assumption); omega) | exact idx_found (show (0 : Int) ≤ (i0 : Int) by simp_all) | exact cut_ok (by omega) | exact or_ok (idx_ok (by omega)) | (refine or1 (fun hz => pre_ok (by simp at hz; omega) (by omega) (by omega))) | exact pre_ok (by omega) (by omega) (by omega) | (simp_all [idxOk, cutOk, leB]; done) | (simp_all [idxOk, cutOk, leB]; omega) | (simp [idxOk, cutOk, leB] at *; omega) | (have hf0 := h_x0.1; simp only [leB, decide_eq_true_eq, List.length_append, List.length_cons, List.length_nil]; omega)) (StE.bind (impl_isRef_ev ((gt x0 (i0 : Int)).fRef)) (StE.bind (Evt.ifh (fun _ => (impl_isHeight_ev ((gt x0 (i0 : Int)).fHeight))) (fun _ => Evt.self _)) (StE.bind (Evt.ifh (fun _ => (impl_within_ev ((gt x0 (i0 : Int)).fOut.fValue) 1 1000000)) (fun _ => Evt.self _)) (StE.ifh (fun hc3 => (StE.ret _)) (fun hc3 => (StE.bind (impl_RuleFault_ev ((gt x0 (i0 : Int)).fOut.fRule) ((((h_x0).2 _ (gt_mem (by first | omega | (have hq := len_eq (by assumption); omega) | (have hf0 := h_x0.1; simp only [leB, decide_eq_true_eq, List.length_append, List.length_cons, List.length_nil]; omega)))).2.1).2)) (StE.ifh (fun hc2 => (StE.ret _)) (fun hc2 => (StE.chk (by first | exact idx_ok (by omega) | exact idx_ok (by have hq := len_eq (by assumption); omega) | exact idx_found (by simp_all) | exact cut_ok (by omega) | exact or_ok (idx_ok (by omega)) | (refine or1 (fun hz => pre_ok (by simp at hz; omega) (by omega) (by omega))) | exact pre_ok (by omega) (by omega) (by omega) | (simp_all [idxOk, cutOk, leB]; done) | (simp_all [idxOk, cutOk, leB]; omega) | (simp [idxOk, cutOk, leB] at *; omega) | (have hf0 := h_x0.1; simp only [leB, decide_eq_true_eq, List.length_append, List.length_cons, List.length_nil]; omega)) (StE.bind (Evt.ifh (fun _ => (impl_compareRefs_ev ((gt x0 (wrap64 ((i0 : Int) - 1))).fRef) ((gt x0 (i0 : Int)).fRef))) (fun _ => Evt.self _)) (StE.ifh (fun hc1 => (StE.ret _)) (fun hc1 => StE.next)))))))))))))) (fun j hj => by
 simp only [impl_CoinsFault.l0_s]
 exact Evt.f (ge_lt hj) (Evt.self _))) (fun _ => rfl) (Evt.self _))))
theorem refs_same (r : Ref) : impl_isRef_v r = spec_l3Ref_v r := by simp only [impl_isRef_v, spec_l3Ref_v, impl_isId_v, impl_within_v, spec_l1In_v]
theorem or_two (p q : Int) : cmp_Or_int_v ([p, q] : List Int) = bif p != 0 then p else bif q != 0 then q else 0 := by
 show onO (([0, 1] : List Nat).findSome? fun i : Nat => bif (gt [p, q] (i : Int)) != 0 then some (gt [p, q] (i : Int)) else none) (fun r => r) 0 = _
 have e0 : gt [p, q] ((0 : Nat) : Int) = p := rfl
 have e1 : gt [p, q] ((1 : Nat) : Int) = q := rfl
 rw [List.findSome?_cons, List.findSome?_cons, List.findSome?_nil, e0, e1]
 cases (p != 0) <;> cases (q != 0) <;> rfl
theorem compare_eq (a b : Int) : cmp_Compare_int64_v a b = bif decide (a < b) then -1 else bif decide (b < a) then 1 else 0 := by
 have e : ∀ x : Int, cmp_isNaN_int64_v x = false := fun x => by simp [cmp_isNaN_int64_v]
 simp only [cmp_Compare_int64_v, e]; rfl
theorem ahead_eq (a b : Ref) : decide (0 ≤ impl_compareRefs_v a b) = !(spec_l4Ahead_v a b) := by
 have e : impl_compareRefs_v a b = bif (cmp_Compare_int64_v a.fTx b.fTx) != 0 then cmp_Compare_int64_v a.fTx b.fTx else bif (cmp_Compare_int64_v a.fAt b.fAt) != 0 then cmp_Compare_int64_v a.fAt b.fAt else 0 := or_two _ _
 rw [e, compare_eq, compare_eq]
 unfold spec_l4Ahead_v
 by_cases h1 : a.fTx < b.fTx
 ·have h2 : ¬ a.fTx = b.fTx := by omega
  simp [h1, h2]
 ·by_cases h2 : b.fTx < a.fTx
  ·have h3 : ¬ a.fTx = b.fTx := by omega
   simp [h1, h2, h3]
  ·have h3 : a.fTx = b.fTx := by omega
   by_cases h4 : a.fAt < b.fAt
   ·simp [h3, h4]
   ·by_cases h5 : b.fAt < a.fAt
    ·simp [h3, h4, h5]
    ·simp [h3, h4, h5]
theorem coinsFault_same (x0 : List Coin) : impl_CoinsFault_v x0 = spec_l4Fault_v x0 := by
 unfold impl_CoinsFault_v spec_l4Fault_v
 congr 2
 refine fs_congr fun i hi => ?_
 simp only [refs_same, ruleFault_same, spec_l4Out_v]
 have e1 : ∀ n a b : Int, impl_within_v n a b = spec_l1In_v n a b := fun _ _ _ => rfl
 have e2 : ∀ n : Int, impl_isHeight_v n = spec_l2Height_v n := fun _ => rfl
 have e3 : (decide (0 < (i : Int)) && decide (0 ≤ (bif decide (0 < (i : Int)) then impl_compareRefs_v (gt x0 (wrap64 ((i : Int) - 1))).fRef (gt x0 (i : Int)).fRef else default))) =
   (decide (0 < (i : Int)) && !(bif decide (0 < (i : Int)) then spec_l4Ahead_v (gt x0 (wrap64 ((i : Int) - 1))).fRef (gt x0 (i : Int)).fRef else default)) := by
  cases decide (0 < (i : Int))
  ·rfl
  ·exact ahead_eq _ _
 rw [e3]
 simp only [e1, e2]
 generalize (decide (0 < (i : Int)) && !(bif decide (0 < (i : Int)) then spec_l4Ahead_v (gt x0 (wrap64 ((i : Int) - 1))).fRef (gt x0 (i : Int)).fRef else default)) = z
 generalize spec_l3Ref_v (gt x0 (i : Int)).fRef = a
 generalize spec_l2Height_v (gt x0 (i : Int)).fHeight = b
 generalize spec_l1In_v (gt x0 (i : Int)).fOut.fValue 1 1000000 = c
 cases a <;> cases b <;> cases c <;> rfl
def lexL (a b : Ref) : Prop := a.fTx < b.fTx ∨ a.fTx = b.fTx ∧ a.fAt < b.fAt
theorem risingR {R : Nat → Nat → Prop} (n : Nat) (tr : ∀ a b c, c < n → R a b → R b c → R a c) (h : ∀ i, i + 1 < n → R i (i + 1)) : ∀ d a, a + d + 1 < n → R a (a + d + 1)
 | 0, a, hb => h a hb
 | d + 1, a, hb => tr _ _ _ hb (risingR n tr h d a (by omega)) (h (a + d + 1) hb)
theorem compareRefs_lt (a b : Ref) : impl_compareRefs_v a b < 0 ↔ lexL a b := by
 have e : impl_compareRefs_v a b = bif (cmp_Compare_int64_v a.fTx b.fTx) != 0 then cmp_Compare_int64_v a.fTx b.fTx else bif (cmp_Compare_int64_v a.fAt b.fAt) != 0 then cmp_Compare_int64_v a.fAt b.fAt else 0 := or_two _ _
 rw [e, compare_eq, compare_eq]
 unfold lexL
 by_cases h1 : a.fTx < b.fTx
 ·simp [h1]
 ·by_cases h2 : b.fTx < a.fTx
  ·simp [h1, h2]; omega
  ·have h3 : a.fTx = b.fTx := by omega
   by_cases h4 : a.fAt < b.fAt
   ·simp [h3, h4]
   ·by_cases h5 : b.fAt < a.fAt
    ·simp [h3, h4, h5]
    ·simp [h3, h4, h5]
theorem compareRefs_zero (a b : Ref) : impl_compareRefs_v a b = 0 ↔ a.fTx = b.fTx ∧ a.fAt = b.fAt := by
 have e : impl_compareRefs_v a b = bif (cmp_Compare_int64_v a.fTx b.fTx) != 0 then cmp_Compare_int64_v a.fTx b.fTx else bif (cmp_Compare_int64_v a.fAt b.fAt) != 0 then cmp_Compare_int64_v a.fAt b.fAt else 0 := or_two _ _
 rw [e, compare_eq, compare_eq]
 by_cases h1 : a.fTx < b.fTx
 ·simp [h1]; omega
 ·by_cases h2 : b.fTx < a.fTx
  ·simp [h1, h2]; omega
  ·have h3 : a.fTx = b.fTx := by omega
   by_cases h4 : a.fAt < b.fAt
   ·simp [h3, h4]; omega
   ·by_cases h5 : b.fAt < a.fAt
    ·simp [h3, h4, h5]; omega
    ·have h6 : a.fAt = b.fAt := by omega
     simp [h3, h6]
theorem ahead_lex (a b : Ref) : spec_l4Ahead_v a b = true ↔ lexL a b := by
 unfold spec_l4Ahead_v lexL
 by_cases h : a.fTx = b.fTx
 ·simp [h]
 ·have h2 : (a.fTx != b.fTx) = true := by simp [h]
  rw [h2]; simp; omega
theorem three_ne (a : Bool) (q : Int) (b : Bool) : (bif a then some (3 : Int) else bif q != 0 then some q else bif b then some 1 else none) ≠ some 0 := by
 cases a
 ·cases hq : q != 0
  ·cases b <;> simp
  ·simp at hq; simpa using hq
 ·simp
theorem three_none {a : Bool} {q : Int} {b : Bool} (h : (bif a then some (3 : Int) else bif q != 0 then some q else bif b then some 1 else none) = none) : b = false := by
 cases a
 ·cases hq : q != 0
  ·rw [hq] at h; cases b
   ·rfl
   ·cases h
  ·rw [hq] at h; cases h
 ·cases h
theorem coins_step (x0 : List Coin) (hl : x0.length ≤ 1048576) (h : spec_l4Fault_v x0 = 0) : ∀ i, i + 1 < x0.length → lexL (gt x0 (i : Int)).fRef (gt x0 ((i + 1 : Nat) : Int)).fRef := by
 intro i hi
 unfold spec_l4Fault_v at h
 cases hc : decide (40 < (x0.length : Int))
 ·rw [hc] at h
  obtain ⟨h1, _⟩ := onO_zero h (fun i => three_ne _ _ _)
  have h2 := three_none (fs_all h1 (i + 1) hi)
  have e : wrap64 (((i + 1 : Nat) : Int) - 1) = (i : Int) := by have := wrap64_in (((i + 1 : Nat) : Int) - 1) (by omega); rw [this]; omega
  have e2 : decide (0 < ((i + 1 : Nat) : Int)) = true := decide_eq_true (by omega)
  rw [e, e2] at h2
  rw [← ahead_lex]
  cases hq : spec_l4Ahead_v (gt x0 (i : Int)).fRef (gt x0 ((i + 1 : Nat) : Int)).fRef
  ·rw [hq] at h2; cases h2
  ·rfl
 ·rw [hc] at h; exact absurd (show (2 : Int) = 0 from h) (by decide)
theorem lex_trans {a b c : Ref} (h : lexL a b) (k : lexL b c) : lexL a c := by unfold lexL at *; omega
theorem coins_lt (x0 : List Coin) (hl : x0.length ≤ 1048576) (h : spec_l4Fault_v x0 = 0) (a b : Nat) (hab : a < b) (hb : b < x0.length) : lexL (gt x0 (a : Int)).fRef (gt x0 (b : Int)).fRef := by
 have := risingR (R := fun a b => lexL (gt x0 (a : Int)).fRef (gt x0 (b : Int)).fRef) x0.length (fun a b c _ h k => lex_trans h k) (coins_step x0 hl h) (b - a - 1) a (by omega)
 have e : a + (b - a - 1) + 1 = b := by omega
 rw [e] at this
 exact this
def Rise (xs : List Coin) : Prop := xs.length ≤ 1048576 ∧ xs.Pairwise fun a b => lexL a.fRef b.fRef
theorem Rise.lt {xs : List Coin} (h : Rise xs) (a b : Nat) (hab : a < b) (hb : b < xs.length) : lexL (gt xs (a : Int)).fRef (gt xs (b : Int)).fRef := by
 rw [gt_eq (by simp; omega), gt_eq (by simpa using hb)]
 exact (List.pairwise_iff_getElem.1 h.2) _ _ _ _ (by simpa using hab)
theorem Rise.of {xs : List Coin} (hl : xs.length ≤ 1048576) (h : ∀ a b : Nat, a < b → b < xs.length → lexL (gt xs (a : Int)).fRef (gt xs (b : Int)).fRef) : Rise xs := by
 refine ⟨hl, List.pairwise_iff_getElem.2 fun i j hi hj hij => ?_⟩
 have := h i j hij hj
 rw [gt_eq (by simpa using hi), gt_eq (by simpa using hj)] at this
 simpa using this
theorem Rise.sub {xs ys : List Coin} (h : Rise xs) (s : ys.Sublist xs) : Rise ys := ⟨Nat.le_trans s.length_le h.1, h.2.sublist s⟩
theorem rise_of {x0 : List Coin} (h0 : Lm smCoin x0) (h : spec_l4Fault_v x0 = 0) : Rise x0 := Rise.of h0.1 (coins_lt x0 h0.1 h)
theorem rise_keys {xs : List Coin} (h : xs.Pairwise fun a b => lexL a.fRef b.fRef) : (xs.map refKey).Nodup := by
 unfold List.Nodup
 rw [List.pairwise_map]
 refine h.imp fun {a b} hab e => ?_
 unfold refKey at e
 have e1 := (Prod.mk.inj e).1; have e2 := (Prod.mk.inj e).2
 unfold lexL at hab; omega
theorem lex_le {a b : Coin} (h : lexL a.fRef b.fRef) : refLe a b = true := by
 rw [refLe_iff]; unfold lexL at h; omega
theorem sort_uniq {xs ys : List Coin} (hp : ys.Perm xs) (hr : ys.Pairwise fun a b => lexL a.fRef b.fRef) : xs.mergeSort refLe = ys := by
 have hms : (xs.mergeSort refLe).Pairwise (fun a b => refLe a b = true) := List.pairwise_mergeSort (fun a b c h1 h2 => by rw [refLe_iff] at *; omega) (fun a b => by
  rw [Bool.or_eq_true, refLe_iff, refLe_iff]; omega) xs
 have hpm : (xs.mergeSort refLe).Perm ys := (List.mergeSort_perm xs refLe).trans hp.symm
 refine sorted_uniq hpm hms (hr.imp lex_le) (fun a ha b hb h1 h2 => ?_)
 refine key_inj (rise_keys hr) a (hpm.mem_iff.1 ha) b (hpm.mem_iff.1 hb) ?_
 rw [refLe_iff] at h1 h2
 have e1 : a.fRef.fTx = b.fRef.fTx := by omega
 have e2 : a.fRef.fAt = b.fRef.fAt := by omega
 unfold refKey
 rw [e1, e2]
def impl_TxFault_1_v (x0 : Int) : Bool := ((decide (x0 < 1)) || (decide (4 < x0)))
theorem impl_TxFault_1_ev (x0 : Int)  : Evt (fun k => impl_TxFault_1.f k x0) (impl_TxFault_1_v x0) :=
 (Evt.self _)
def slices_Index_impl_Ref_v (x0 : List Ref) (x1 : Ref) : Int := (onO ((List.range' 0 (x0.length - 0)).findSome? (fun (i0 : Nat) => (bif ((x1.fTx == ((gt x0 (i0 : Int)).fTx)) && (x1.fAt == ((gt x0 (i0 : Int)).fAt))) then (some (i0 : Int)) else none))) (fun r => r) (-1))
theorem slices_Index_impl_Ref_ev (x0 : List Ref) (x1 : Ref) (h_x0 : (Lm smRef) x0) : Evt (fun k => slices_Index_impl_Ref.f k x0 x1) (slices_Index_impl_Ref_v x0 x1) :=
 (Evt.loop (r' := fun r => r) (Evt.srch (L := (fun k i => slices_Index_impl_Ref.l0 x0 x1 k i)) 0 x0.length (by have := h_x0; first | (have := this.1; omega) | omega) (fun (i0 : Nat) => (bif ((x1.fTx == ((gt x0 (i0 : Int)).fTx)) && (x1.fAt == ((gt x0 (i0 : Int)).fAt))) then (some (i0 : Int)) else none)) (fun i0 hs2 hi2 => by
 have hbn : x0.length ≤ 9223372036854775807 := (by have := h_x0; first | (have := this.1; omega) | omega)
 simp only [slices_Index_impl_Ref.l0_s]
 exact Evt_t2 (int_lt hi2) (StE.chk (by first | exact idx_ok (by omega) | exact idx_ok (by have hq := len_eq (by assumption); omega) | exact idx_found (show (0 : Int) ≤ (i0 : Int) by simp_all) | exact cut_ok (by omega) | exact or_ok (idx_ok (by omega)) | (refine or1 (fun hz => pre_ok (by simp at hz; omega) (by omega) (by omega))) | exact pre_ok (by omega) (by omega) (by omega) | (simp_all [idxOk, cutOk, leB]; done) | (simp_all [idxOk, cutOk, leB]; omega) | (simp [idxOk, cutOk, leB] at *; omega) | (have hf0 := h_x0.1; simp only [leB, decide_eq_true_eq, List.length_append, List.length_cons, List.length_nil]; omega)) (StE.ifh (fun hc1 => (StE.ret _)) (fun hc1 => StE.next)))) (fun j hj => by
 simp only [slices_Index_impl_Ref.l0_s]
 exact Evt.f (ge_lt hj) (Evt.self _))) (fun _ => rfl) (Evt.self _))
def slices_Contains_impl_Ref_v (x0 : List Ref) (x1 : Ref) : Bool := (decide (0 ≤ (slices_Index_impl_Ref_v x0 x1)))
theorem slices_Contains_impl_Ref_ev (x0 : List Ref) (x1 : Ref) (h_x0 : (Lm smRef) x0) : Evt (fun k => slices_Contains_impl_Ref.f k x0 x1) (slices_Contains_impl_Ref_v x0 x1) :=
 (Evt.bind (slices_Index_impl_Ref_ev x0 x1 (h_x0)) (Evt.self _))
theorem slices_Contains_impl_Ref_any (x0 : List Ref) (x1 : Ref) : slices_Contains_impl_Ref_v x0 x1 = (List.range' 0 (x0.length - 0)).any (fun (i0 : Nat) => ((x1.fTx == ((gt x0 (i0 : Int)).fTx)) && (x1.fAt == ((gt x0 (i0 : Int)).fAt)))) := idx_any _ _
def impl_outFault_v (x0 : Out) : Int := (bif !(impl_within_v x0.fValue 1 1000000) then 3 else (impl_RuleFault_v x0.fRule))
theorem impl_outFault_ev (x0 : Out) (h_x0 : smOut x0) : Evt (fun k => impl_outFault.f k x0) (impl_outFault_v x0) :=
 (Evt.bind (impl_within_ev x0.fValue 1 1000000) (Evt.ifh (fun hc0 => (Evt.self _)) (fun hc0 => (Evt.bind (impl_RuleFault_ev x0.fRule (h_x0.2)) (Evt.self _)))))
def impl_TxFault_v (x0 : Tx) : Int := (bif ((!(impl_within_v x0.fKind 0 2)) || ((x0.fKind == 0) != (x0.fMember == 0))) then 1 else (bif ((x0.fMember != 0) && (!(bif (x0.fMember != 0) then (impl_isKey_v x0.fMember) else default))) then 3 else (bif ((impl_TxFault_1_v (x0.fIns.length : Int)) || (bif (!(impl_TxFault_1_v (x0.fIns.length : Int))) then (impl_TxFault_1_v (x0.fOuts.length : Int)) else default)) then 2 else (onO ((List.range' 0 (x0.fIns.length - 0)).findSome? (fun (i0 : Nat) => (bif !(impl_isRef_v (gt x0.fIns (i0 : Int))) then (some 3) else (bif (slices_Contains_impl_Ref_v (x0.fIns.take ((i0 : Int)).toNat) (gt x0.fIns (i0 : Int))) then (some 7) else none)))) (fun r => r) (onO ((List.range' 0 (x0.fOuts.length - 0)).findSome? (fun (i3 : Nat) => (bif ((impl_outFault_v (gt x0.fOuts (i3 : Int))) != 0) then (some (impl_outFault_v (gt x0.fOuts (i3 : Int)))) else none))) (fun r => r) (bif ((x0.fKind == 1) && (decide (((gt x0.fOuts (0 : Int)).fValue) < 100))) then 8 else 0))))))
theorem impl_TxFault_ev (x0 : Tx) (h_x0 : smTx x0) : Evt (fun k => impl_TxFault.f k x0) (impl_TxFault_v x0) :=
 (Evt.bind (impl_within_ev x0.fKind 0 2) (Evt.ifh (fun hc8 => (Evt.self _)) (fun hc8 => (Evt.bind (Evt.ifh (fun _ => (impl_isKey_ev x0.fMember)) (fun _ => Evt.self _)) (Evt.ifh (fun hc7 => (Evt.self _)) (fun hc7 => (Evt.bind (impl_TxFault_1_ev (x0.fIns.length : Int)) (Evt.bind (Evt.ifh (fun _ => (impl_TxFault_1_ev (x0.fOuts.length : Int))) (fun _ => Evt.self _)) (Evt.ifh (fun hc6 => (Evt.self _)) (fun hc6 => (Evt.loop (r' := fun r => r) (Evt.srch (L := (fun k i => impl_TxFault.l0 x0 k i)) 0 x0.fIns.length (by have := h_x0.2.2.1; first | (have := this.1; omega) | omega) (fun (i0 : Nat) => (bif !(impl_isRef_v (gt x0.fIns (i0 : Int))) then (some 3) else (bif (slices_Contains_impl_Ref_v (x0.fIns.take ((i0 : Int)).toNat) (gt x0.fIns (i0 : Int))) then (some 7) else none))) (fun i0 hs3 hi3 => by
 have hbn : x0.fIns.length ≤ 9223372036854775807 := (by have := h_x0.2.2.1; first | (have := this.1; omega) | omega)
 simp only [impl_TxFault.l0_s]
 exact Evt_t2 (int_lt hi3) (StE.chk (by first | exact idx_ok (by omega) | exact idx_ok (by have hq := len_eq (by assumption); omega) | exact idx_found (show (0 : Int) ≤ (i0 : Int) by simp_all) | exact cut_ok (by omega) | exact or_ok (idx_ok (by omega)) | (refine or1 (fun hz => pre_ok (by simp at hz; omega) (by omega) (by omega))) | exact pre_ok (by omega) (by omega) (by omega) | (simp_all [idxOk, cutOk, leB]; done) | (simp_all [idxOk, cutOk, leB]; omega) | (simp [idxOk, cutOk, leB] at *; omega) | (simp_all [idxOk, impl_TxFault_1_v]; omega) | (have hf0 := h_x0.2.2.1.1; have hf1 := h_x0.2.2.2.1; simp only [leB, decide_eq_true_eq, List.length_append, List.length_cons, List.length_nil]; omega)) (StE.bind (impl_isRef_ev (gt x0.fIns (i0 : Int))) (StE.ifh (fun hc2 => (StE.ret _)) (fun hc2 => (StE.chk (by first | exact idx_ok (by omega) | exact idx_ok (by have hq := len_eq (by assumption); omega) | exact idx_found (by simp_all) | exact cut_ok (by omega) | exact or_ok (idx_ok (by omega)) | (refine or1 (fun hz => pre_ok (by simp at hz; omega) (by omega) (by omega))) | exact pre_ok (by omega) (by omega) (by omega) | (simp_all [idxOk, cutOk, leB]; done) | (simp_all [idxOk, cutOk, leB]; omega) | (simp [idxOk, cutOk, leB] at *; omega) | (simp_all [idxOk, impl_TxFault_1_v]; omega) | (have hf0 := h_x0.2.2.1.1; have hf1 := h_x0.2.2.2.1; simp only [leB, decide_eq_true_eq, List.length_append, List.length_cons, List.length_nil]; omega)) (StE.bind (slices_Contains_impl_Ref_ev (x0.fIns.take ((i0 : Int)).toNat) (gt x0.fIns (i0 : Int)) ((Lm_take h_x0.2.2.1))) (StE.ifh (fun hc1 => (StE.ret _)) (fun hc1 => StE.next))))))))) (fun j hj => by
 simp only [impl_TxFault.l0_s]
 exact Evt.f (ge_lt hj) (Evt.self _))) (fun _ => rfl) (Evt.loop (r' := fun r => r) (Evt.srch (L := (fun k i => impl_TxFault.l1 x0 k i)) 0 x0.fOuts.length (by have := h_x0.2.2.2; first | (have := this.1; omega) | omega) (fun (i3 : Nat) => (bif ((impl_outFault_v (gt x0.fOuts (i3 : Int))) != 0) then (some (impl_outFault_v (gt x0.fOuts (i3 : Int)))) else none)) (fun i3 hs5 hi5 => by
 have hbn : x0.fOuts.length ≤ 9223372036854775807 := (by have := h_x0.2.2.2; first | (have := this.1; omega) | omega)
 simp only [impl_TxFault.l1_s]
 exact Evt_t2 (int_lt hi5) (StE.chk (by first | exact idx_ok (by omega) | exact idx_ok (by have hq := len_eq (by assumption); omega) | exact idx_found (show (0 : Int) ≤ (i3 : Int) by simp_all) | exact cut_ok (by omega) | exact or_ok (idx_ok (by omega)) | (refine or1 (fun hz => pre_ok (by simp at hz; omega) (by omega) (by omega))) | exact pre_ok (by omega) (by omega) (by omega) | (simp_all [idxOk, cutOk, leB]; done) | (simp_all [idxOk, cutOk, leB]; omega) | (simp [idxOk, cutOk, leB] at *; omega) | (simp_all [idxOk, impl_TxFault_1_v]; omega) | (have hf0 := h_x0.2.2.1.1; have hf1 := h_x0.2.2.2.1; simp only [leB, decide_eq_true_eq, List.length_append, List.length_cons, List.length_nil]; omega)) (StE.bind (impl_outFault_ev (gt x0.fOuts (i3 : Int)) ((h_x0.2.2.2).2 _ (gt_mem (by first | omega | (have hq := len_eq (by assumption); omega) | (simp_all [idxOk, impl_TxFault_1_v]; omega) | (have hf0 := h_x0.2.2.1.1; have hf1 := h_x0.2.2.2.1; simp only [leB, decide_eq_true_eq, List.length_append, List.length_cons, List.length_nil]; omega))))) (StE.ifh (fun hc4 => (StE.ret _)) (fun hc4 => StE.next))))) (fun j hj => by
 simp only [impl_TxFault.l1_s]
 exact Evt.f (ge_lt hj) (Evt.self _))) (fun _ => rfl) (Evt.chk (by first | exact idx_ok (by omega) | exact idx_ok (by have hq := len_eq (by assumption); omega) | exact idx_found (by simp_all) | exact cut_ok (by omega) | exact or_ok (idx_ok (by omega)) | (refine or1 (fun hz => pre_ok (by simp at hz; omega) (by omega) (by omega))) | exact pre_ok (by omega) (by omega) (by omega) | (simp_all [idxOk, cutOk, leB]; done) | (simp_all [idxOk, cutOk, leB]; omega) | (simp [idxOk, cutOk, leB] at *; omega) | (simp_all [idxOk, impl_TxFault_1_v]; omega) | (have hf0 := h_x0.2.2.1.1; have hf1 := h_x0.2.2.2.1; simp only [leB, decide_eq_true_eq, List.length_append, List.length_cons, List.length_nil]; omega)) (Evt.ifh (fun hc5 => (Evt.self _)) (fun hc5 => (Evt.self _))))))))))))))))
theorem contains_ref (xs : List Ref) (x : Ref) : slices_Contains_impl_Ref_v xs x = spec_l3Among_v xs x := by
 have e : (fun i : Nat => (x.fTx == (gt xs (i : Int)).fTx) && (x.fAt == (gt xs (i : Int)).fAt)) = fun i : Nat => ((gt xs (i : Int)).fTx == x.fTx) && ((gt xs (i : Int)).fAt == x.fAt) := by funext i; rw [BEq.comm (a := x.fTx), BEq.comm (a := x.fAt)]
 rw [slices_Contains_impl_Ref_any, e]; simp only [spec_l3Among_v, found_any, bifb]
theorem txFault_same (x0 : Tx) : impl_TxFault_v x0 = spec_l3Fault_v x0 := by
 have e1 : ∀ n : Int, impl_TxFault_1_v n = !(spec_l1In_v n 1 4) := fun n => rng1
 have e2 : ∀ x : Out, (bif ((impl_outFault_v x) != 0) then (some (impl_outFault_v x)) else none) = (bif !(spec_l1In_v x.fValue 1 1000000) then (some 3) else (bif ((spec_l2Fault_v x.fRule) != 0) then (some (spec_l2Fault_v x.fRule)) else none)) := by
  intro x
  have e : impl_outFault_v x = bif !(spec_l1In_v x.fValue 1 1000000) then 3 else spec_l2Fault_v x.fRule := by simp only [impl_outFault_v, ruleFault_same, impl_within_v, spec_l1In_v]
  rw [e]
  cases spec_l1In_v x.fValue 1 1000000 <;> rfl
 have e3 : ∀ n a b : Int, impl_within_v n a b = spec_l1In_v n a b := fun _ _ _ => rfl
 have e4 : ∀ n : Int, impl_isKey_v n = spec_l1Key_v n := fun _ => rfl
 simp only [impl_TxFault_v, spec_l3Fault_v, spec_l3Outs_v, e1, e2, e3, e4, refs_same, contains_ref]
 simp only [bne]
 generalize spec_l1In_v (x0.fIns.length : Int) 1 4 = a
 generalize spec_l1In_v (x0.fOuts.length : Int) 1 4 = b
 generalize spec_l1In_v x0.fKind 0 2 = c
 generalize spec_l1Key_v x0.fMember = d
 generalize (x0.fKind == 0) = e
 generalize (x0.fMember == 0) = f
 cases a <;> cases b <;> cases c <;> cases d <;> cases e <;> cases f <;> rfl
def impl_findCoin_1_v (x0 : Coin) (x1 : Ref) : Int := (impl_compareRefs_v x0.fRef x1)
theorem impl_findCoin_1_ev (x0 : Coin) (x1 : Ref) (h_x0 : smCoin x0) : Evt (fun k => impl_findCoin_1.f k x0 x1) (impl_findCoin_1_v x0 x1) :=
 (Evt.bind (impl_compareRefs_ev x0.fRef x1) (Evt.self _))
def bsI (q : Nat → Bool) : Nat → Nat → Nat → Nat
 | 0, i, _ => i
 | m + 1, i, j => bif decide (i < j) then (bif q ((i + j) / 2) then bsI q m ((i + j) / 2 + 1) j else bsI q m i ((i + j) / 2)) else i
theorem mid_eq {i j : Nat} (h1 : i < j) (h2 : j ≤ 1048576) : wrap64 ((IntKind.u64.wrap (wrap64 ((i : Int) + (j : Int)))) / 2 ^ ((1 : Int)).toNat) = (((i + j) / 2 : Nat) : Int) := by
 have e1 : wrap64 ((i : Int) + (j : Int)) = (i : Int) + j := wrap64_in _ (by omega)
 have e2 : IntKind.u64.wrap ((i : Int) + j) = (i : Int) + j := u64_in _ (by omega)
 have e3 : (2 : Int) ^ ((1 : Int)).toNat = 2 := by decide
 rw [e1, e2, e3]
 have e4 : ((i : Int) + j) / 2 = (((i + j) / 2 : Nat) : Int) := by omega
 rw [e4]
 exact wrap64_in _ (by omega)
theorem Evt.bs {L : Nat → Int → Int → Option Int} (n : Nat) (q : Nat → Bool)
  (step : ∀ i j : Nat, i < j → j ≤ n → ∀ r, (q ((i + j) / 2) = true → Evt (fun k => L k (((i + j) / 2 + 1 : Nat) : Int) (j : Int)) r) → (q ((i + j) / 2) = false → Evt (fun k => L k (i : Int) (((i + j) / 2 : Nat) : Int)) r) → Evt (fun k => L (k + 1) (i : Int) (j : Int)) r)
  (done : ∀ i j : Nat, j ≤ i → Evt (fun k => L (k + 1) (i : Int) (j : Int)) (i : Int)) : Evt (fun k => L k 0 (n : Int)) ((bsI q n 0 n : Nat) : Int) := by
 have key : ∀ m i j : Nat, j ≤ i + m → j ≤ n → Evt (fun k => L k (i : Int) (j : Int)) ((bsI q m i j : Nat) : Int) := by
  intro m
  induction m with
  | zero => intro i j h _; exact Evt.s (done i j (by omega))
  | succ m ih =>
   intro i j h hj
   refine Evt.s ?_
   unfold bsI
   by_cases hlt : i < j
   ·rw [decide_eq_true hlt]
    refine step i j hlt hj _ (fun hq => ?_) (fun hq => ?_)
    ·rw [hq]; exact ih _ _ (by omega) hj
    ·rw [hq]; exact ih _ _ (by omega) (by omega)
   ·rw [decide_eq_false hlt]; exact done i j (by omega)
 exact key n 0 n (by omega) (Nat.le_refl _)
theorem bsI_spec (q : Nat → Bool) (n : Nat) (mono : ∀ a b, a ≤ b → b < n → q b = true → q a = true) :
  bsI q n 0 n ≤ n ∧ (∀ i, i < bsI q n 0 n → q i = true) ∧ (∀ i, bsI q n 0 n ≤ i → i < n → q i = false) := by
 have key : ∀ m i j : Nat, j ≤ i + m → i ≤ j → j ≤ n → (∀ a, a < i → q a = true) → (∀ a, j ≤ a → a < n → q a = false) →
   bsI q m i j ≤ n ∧ (∀ a, a < bsI q m i j → q a = true) ∧ (∀ a, bsI q m i j ≤ a → a < n → q a = false) := by
  intro m
  induction m with
  | zero =>
   intro i j h hij hj h1 h2
   have : i = j := by omega
   subst this
   exact ⟨hj, h1, h2⟩
  | succ m ih =>
   intro i j h hij hj h1 h2
   unfold bsI
   by_cases hlt : i < j
   ·rw [decide_eq_true hlt]
    cases hq : q ((i + j) / 2)
    ·exact ih _ _ (by omega) (by omega) (by omega) h1 fun a ha hn => by
      cases hqa : q a
      ·rfl
      ·rw [mono _ a ha hn hqa] at hq; cases hq
    ·exact ih _ _ (by omega) (by omega) hj (fun a ha => mono a _ (by omega) (by omega) hq) h2
   ·rw [decide_eq_false hlt]
    have : i = j := by omega
    subst this
    exact ⟨hj, h1, h2⟩
 exact key n 0 n (by omega) (by omega) (Nat.le_refl _) (fun a ha => by omega) (fun a ha hn => by omega)
theorem fs_none {β : Type} {p : Nat → Option β} : ∀ {l : List Nat}, (∀ i ∈ l, p i = none) → l.findSome? p = none
 | [], _ => rfl
 | i :: l, h => by rw [List.findSome?_cons, h i (List.mem_cons_self ..)]; exact fs_none fun j hj => h j (List.mem_cons_of_mem _ hj)
theorem fs_first {β : Type} {p : Nat → Option β} {x : β} : ∀ (d i B : Nat), i ≤ B → B < i + d → (∀ j, i ≤ j → j < B → p j = none) → p B = some x → (List.range' i d).findSome? p = some x
 | 0, i, B, h1, h2, _, _ => by omega
 | d + 1, i, B, h1, h2, h3, h4 => by
  rw [List.range'_succ, List.findSome?_cons]
  by_cases e : i = B
  ·subst e; rw [h4]
  ·rw [h3 i (Nat.le_refl _) (by omega)]
   exact fs_first d (i + 1) B (by omega) (by omega) (fun j hj => h3 j (by omega)) h4
theorem bs_find (n : Nat) (c : Nat → Int) (mono : ∀ a b, a ≤ b → b < n → c b < 0 → c a < 0) (str : ∀ a b, a < b → b < n → c b = 0 → c a < 0) (d : Int) :
  (List.range' 0 (n - 0)).findSome? (fun i => bif c i == 0 then some (i : Int) else none) =
   bif decide (((bsI (fun i => decide (c i < 0)) n 0 n : Nat) : Int) < (n : Int)) && ((bif decide (((bsI (fun i => decide (c i < 0)) n 0 n : Nat) : Int) < (n : Int)) then c (bsI (fun i => decide (c i < 0)) n 0 n) else d) == 0) then some ((bsI (fun i => decide (c i < 0)) n 0 n : Nat) : Int) else none := by
 obtain ⟨h1, h2, h3⟩ := bsI_spec (fun i => decide (c i < 0)) n (fun a b h hb hq => by simp at hq ⊢; exact mono a b h hb hq)
 generalize bsI (fun i => decide (c i < 0)) n 0 n = B at *
 by_cases hB : B < n
 ·rw [decide_eq_true (show (B : Int) < (n : Int) by omega)]
  simp only [Bool.true_and, cond_true]
  by_cases h0 : c B = 0
  ·rw [h0]
   refine fs_first (n - 0) 0 B (Nat.zero_le _) (by omega) (fun j _ hj => ?_) (by rw [h0]; rfl)
   have := h2 j hj
   simp at this
   have : (c j == 0) = false := by simp; omega
   rw [this]; rfl
  ·have e0 : (c B == 0) = false := by simp [h0]
   rw [e0]
   refine fs_none fun i hi => ?_
   obtain ⟨j, hj, rfl⟩ := List.mem_range'.1 hi
   have e : (c (0 + 1 * j) == 0) = false := by
    simp only [beq_eq_false_iff_ne, ne_eq]
    intro hc
    rcases Nat.lt_trichotomy (0 + 1 * j) B with h | h | h
    ·have := h2 _ h; simp at this; simp at hc; omega
    ·rw [h] at hc; exact h0 hc
    ·have h4 := str B _ h (by omega) hc
     have h5 := h3 B (Nat.le_refl _) hB
     simp at h5; omega
   rw [e]; rfl
 ·rw [decide_eq_false (show ¬ (B : Int) < (n : Int) by omega)]
  refine fs_none fun i hi => ?_
  obtain ⟨j, hj, rfl⟩ := List.mem_range'.1 hi
  have h4 := h2 (0 + 1 * j) (by omega)
  simp only [decide_eq_true_eq] at h4
  have e : (c (0 + 1 * j) == 0) = false := by simp only [beq_eq_false_iff_ne, ne_eq]; omega
  rw [e]; rfl
def slices_BinarySearchFunc_impl_Coin_v (x0 : List Coin) (x1 : Ref) : Int × Bool := (((bsI (fun i => decide (impl_findCoin_1_v (gt x0 (i : Int)) x1 < 0)) x0.length 0 x0.length : Nat) : Int), (decide (((bsI (fun i => decide (impl_findCoin_1_v (gt x0 (i : Int)) x1 < 0)) x0.length 0 x0.length : Nat) : Int) < (x0.length : Int)) && ((bif decide (((bsI (fun i => decide (impl_findCoin_1_v (gt x0 (i : Int)) x1 < 0)) x0.length 0 x0.length : Nat) : Int) < (x0.length : Int)) then impl_findCoin_1_v (gt x0 ((bsI (fun i => decide (impl_findCoin_1_v (gt x0 (i : Int)) x1 < 0)) x0.length 0 x0.length : Nat) : Int)) x1 else default) == 0)))
theorem slices_BinarySearchFunc_impl_Coin_ev (x0 : List Coin) (x1 : Ref) (h_x0 : ((Lm smCoin)) x0) : Evt (fun k => slices_BinarySearchFunc_impl_Coin.f k x0 x1) (slices_BinarySearchFunc_impl_Coin_v x0 x1) := by
 have hn := h_x0.1
 refine Evt.bind (Evt.bs (L := fun k i j => slices_BinarySearchFunc_impl_Coin.l0 x0 x1 k i j) x0.length (fun i => decide (impl_findCoin_1_v (gt x0 (i : Int)) x1 < 0)) (fun i j h1 h2 r ht hf => ?_) (fun i j h => ?_)) ?_
 ·simp only [slices_BinarySearchFunc_impl_Coin.l0_s, mid_eq h1 (Nat.le_trans h2 hn)]
  refine Evt.t (by simp; omega) (Evt.chk rfl (Evt.chk (idx_ok (by omega)) (Evt.bind (impl_findCoin_1_ev (gt x0 _) x1 (h_x0.2 _ (gt_mem (by omega)))) (Evt.cases (fun hq => ?_) (fun hq => ?_)))))
  ·rw [w64 (n := x0.length) (by omega) (by omega)]; exact ht hq
  ·exact hf hq
 ·simp only [slices_BinarySearchFunc_impl_Coin.l0_s]
  exact Evt.f (by simp; omega) (Evt.self _)
 ·refine Evt.chk (or1 fun hz => idx_ok (by simp at hz; omega)) (Evt.bind (Evt.ifh (fun hz => impl_findCoin_1_ev (gt x0 _) x1 (h_x0.2 _ (gt_mem (by simp at hz; omega)))) (fun _ => Evt.self _)) (Evt.self _))
def impl_findCoin_v (x0 : List Coin) (x1 : Ref) : Int × Bool := ((slices_BinarySearchFunc_impl_Coin_v x0 x1).1, (slices_BinarySearchFunc_impl_Coin_v x0 x1).2)
theorem impl_findCoin_ev (x0 : List Coin) (x1 : Ref) (h_x0 : (Lm smCoin) x0) : Evt (fun k => impl_findCoin.f k x0 x1) (impl_findCoin_v x0 x1) :=
 (Evt.bind (slices_BinarySearchFunc_impl_Coin_ev x0 x1 (h_x0)) (Evt.self _))
theorem findCoin_in (x0 : List Coin) (x1 : Ref) (h : (!(impl_findCoin_v x0 x1).2) = false) : idxOk (impl_findCoin_v x0 x1).1 x0.length = true := by
 have h2 : (impl_findCoin_v x0 x1).2 = true := notF h
 have h3 : (decide ((impl_findCoin_v x0 x1).1 < (x0.length : Int))) = true := by
  have : (decide ((impl_findCoin_v x0 x1).1 < (x0.length : Int)) && _) = true := h2
  exact (Bool.and_eq_true _ _ ▸ this).1
 unfold idxOk
 rw [Bool.and_eq_true]
 exact ⟨by show decide (0 ≤ ((_ : Nat) : Int)) = true; simp, h3⟩
def slices_Clone_int64_v (x0 : List Int) : (List Int) := (([] : List Int) ++ x0)
theorem slices_Clone_int64_ev (x0 : List Int) (h_x0 : (Lm tr) x0) : Evt (fun k => slices_Clone_int64.f k x0) (slices_Clone_int64_v x0) :=
 (Evt.chk (by first | exact idx_ok (by omega) | exact idx_ok (by have hq := len_eq (by assumption); omega) | exact idx_found (by simp_all) | exact cut_ok (by omega) | exact or_ok (idx_ok (by omega)) | (refine or1 (fun hz => pre_ok (by simp at hz; omega) (by omega) (by omega))) | exact pre_ok (by omega) (by omega) (by omega) | (simp_all [idxOk, cutOk, leB]; done) | (simp_all [idxOk, cutOk, leB]; omega) | (simp [idxOk, cutOk, leB] at *; omega) | (have hf0 := h_x0.1; simp only [leB, decide_eq_true_eq, List.length_append, List.length_cons, List.length_nil]; omega)) (Evt.self _))
def impl_ownRule_v (x0 : Rule) : Rule := (⟨(slices_Clone_int64_v x0.fKeys), x0.fNeed, x0.fAfter⟩ : Rule)
theorem impl_ownRule_ev (x0 : Rule) (h_x0 : smRule x0) : Evt (fun k => impl_ownRule.f k x0) (impl_ownRule_v x0) :=
 (Evt.bind (slices_Clone_int64_ev x0.fKeys (h_x0.1)) (Evt.self _))
def impl_ownOut_v (x0 : Out) : Out := (⟨x0.fValue, (impl_ownRule_v x0.fRule)⟩ : Out)
theorem impl_ownOut_ev (x0 : Out) (h_x0 : smOut x0) : Evt (fun k => impl_ownOut.f k x0) (impl_ownOut_v x0) :=
 (Evt.bind (impl_ownRule_ev x0.fRule (h_x0.2)) (Evt.self _))
def impl_ownCoins_v (x0 : List Coin) : (List Coin) := ((List.range' 0 (x0.length - 0)).foldl (fun ac1 (i0 : Nat) => ((ac1 ++ ([(⟨(gt x0 (i0 : Int)).fRef, (impl_ownOut_v ((gt x0 (i0 : Int)).fOut)), (gt x0 (i0 : Int)).fHeight, (gt x0 (i0 : Int)).fMined⟩ : Coin)] : List Coin)))) ([] : List Coin))
theorem impl_ownCoins_ev (x0 : List Coin) (h_x0 : (Lm smCoin) x0) : Evt (fun k => impl_ownCoins.f k x0) (impl_ownCoins_v x0) :=
 (Evt.bind (Evt.gatherL (L := (fun k ac i => impl_ownCoins.l0 x0 k ac i)) x0.length (by have := h_x0; first | (have := this.1; omega) | omega) (fun ac1 (i0 : Nat) => ((ac1 ++ ([(⟨(gt x0 (i0 : Int)).fRef, (impl_ownOut_v ((gt x0 (i0 : Int)).fOut)), (gt x0 (i0 : Int)).fHeight, (gt x0 (i0 : Int)).fMined⟩ : Coin)] : List Coin)))) (fun i0 hi1 ac1 hgl => (by first | (simp only [List.length_append, List.length_cons, List.length_nil]; omega) | omega)) (fun i0 hi1 ac1 hgl o hg => by
 have hbn : x0.length ≤ 1048576 := (by have := h_x0; first | (have := this.1; omega) | omega)
 simp only [impl_ownCoins.l0_s]
 exact Evt.t (int_lt hi1) (Evt.chk (by first | (simp only [leB, decide_eq_true_eq, List.length_append, List.length_cons, List.length_nil]; omega) | exact idx_ok (by omega) | exact idx_ok (by have hq := len_eq (by assumption); omega) | exact idx_found (by simp_all) | exact cut_ok (by omega) | exact or_ok (idx_ok (by omega)) | (refine or1 (fun hz => pre_ok (by simp at hz; omega) (by omega) (by omega))) | exact pre_ok (by omega) (by omega) (by omega) | (simp_all [idxOk, cutOk, leB]; done) | (simp_all [idxOk, cutOk, leB]; omega) | (simp [idxOk, cutOk, leB] at *; omega) | (have hf0 := h_x0.1; simp only [leB, decide_eq_true_eq, List.length_append, List.length_cons, List.length_nil]; omega)) (Evt.bind (impl_ownOut_ev ((gt x0 (i0 : Int)).fOut) (((h_x0).2 _ (gt_mem (by first | omega | (have hq := len_eq (by assumption); omega) | (have hf0 := h_x0.1; simp only [leB, decide_eq_true_eq, List.length_append, List.length_cons, List.length_nil]; omega)))).2.1)) (Evt.chk (by first | (simp only [leB, decide_eq_true_eq, List.length_append, List.length_cons, List.length_nil]; omega) | exact idx_ok (by omega) | exact idx_ok (by have hq := len_eq (by assumption); omega) | exact idx_found (by simp_all) | exact cut_ok (by omega) | exact or_ok (idx_ok (by omega)) | (refine or1 (fun hz => pre_ok (by simp at hz; omega) (by omega) (by omega))) | exact pre_ok (by omega) (by omega) (by omega) | (simp_all [idxOk, cutOk, leB]; done) | (simp_all [idxOk, cutOk, leB]; omega) | (simp [idxOk, cutOk, leB] at *; omega) | (have hf0 := h_x0.1; simp only [leB, decide_eq_true_eq, List.length_append, List.length_cons, List.length_nil]; omega)) hg)))) (fun j ac hj => by
 simp only [impl_ownCoins.l0_s]
 exact Evt.f (ge_lt hj) (Evt.self _))) (Evt.self _))
theorem ownRule_id (r : Rule) : impl_ownRule_v r = r := by simp [impl_ownRule_v, slices_Clone_int64_v]
theorem ownOut_id (x : Out) : impl_ownOut_v x = x := by simp [impl_ownOut_v, ownRule_id]
theorem ownCoins_id (x0 : List Coin) : impl_ownCoins_v x0 = x0 := by
 have h := range_foldl x0 (fun ac (x : Coin) => ac ++ [(⟨x.fRef, impl_ownOut_v x.fOut, x.fHeight, x.fMined⟩ : Coin)]) []
 refine Eq.trans h ?_
 rw [fold_map]
 simp only [ownOut_id]
 simp
theorem sortFunc_ev (x0 : List Coin) (hn : x0.length ≤ 1000000) (hd : (x0.map refKey).Nodup) : Evt (fun k => slices_SortFunc_Coin.f k x0) (x0.mergeSort refLe) := by
 refine Evt.chk ?_ (Evt.self _)
 rw [leB_of hn, decide_eq_true hd]; rfl
theorem sorted_ev (x0 : List Coin) (hn : x0.length ≤ 1000000) (hd : (x0.map refKey).Nodup) : Evt (fun k => impl_sorted.f k x0) (x0.mergeSort refLe) := Evt.bind (sortFunc_ev x0 hn hd) (Evt.self _)
theorem findCoin_key (x0 : List Coin) (x1 : Ref) (rise : ∀ a b : Nat, a < b → b < x0.length → lexL (gt x0 (a : Int)).fRef (gt x0 (b : Int)).fRef) : (List.range' 0 (x0.length - 0)).findSome? (fun i : Nat => bif (((gt x0 (i : Int)).fRef.fTx == x1.fTx) && ((gt x0 (i : Int)).fRef.fAt == x1.fAt)) then some (i : Int) else none) = bif (impl_findCoin_v x0 x1).2 then some (impl_findCoin_v x0 x1).1 else none := by
 have hc0 : ∀ i : Nat, impl_findCoin_1_v (gt x0 (i : Int)) x1 = 0 ↔ (gt x0 (i : Int)).fRef.fTx = x1.fTx ∧ (gt x0 (i : Int)).fRef.fAt = x1.fAt := fun i => compareRefs_zero _ _
 have hcl : ∀ i : Nat, impl_findCoin_1_v (gt x0 (i : Int)) x1 < 0 ↔ lexL (gt x0 (i : Int)).fRef x1 := fun i => compareRefs_lt _ _
 have key := bs_find x0.length (fun i => impl_findCoin_1_v (gt x0 (i : Int)) x1) (fun a b hab hb hlt => by
  rw [hcl] at hlt ⊢
  rcases Nat.lt_or_eq_of_le hab with h1 | h1
  ·exact lex_trans (rise a b h1 hb) hlt
  ·subst h1; exact hlt) (fun a b hab hb h0 => by
  rw [hc0] at h0
  rw [hcl]
  have := rise a b hab hb
  unfold lexL at *; omega) default
 have e : (fun i : Nat => bif (((gt x0 (i : Int)).fRef.fTx == x1.fTx) && ((gt x0 (i : Int)).fRef.fAt == x1.fAt)) then some (i : Int) else none) = fun i : Nat => bif impl_findCoin_1_v (gt x0 (i : Int)) x1 == 0 then some (i : Int) else none := by
  funext i
  have : (((gt x0 (i : Int)).fRef.fTx == x1.fTx) && ((gt x0 (i : Int)).fRef.fAt == x1.fAt)) = (impl_findCoin_1_v (gt x0 (i : Int)) x1 == 0) := by
   rw [Bool.eq_iff_iff, Bool.and_eq_true, beq_iff_eq, beq_iff_eq, beq_iff_eq]; exact (hc0 i).symm
  rw [this]
 rw [e, key]
 rfl
theorem ref_ext {a b : Ref} (h1 : a.fTx = b.fTx) (h2 : a.fAt = b.fAt) : a = b := by
 cases a; cases b; simp only at h1 h2; subst h1; subst h2; rfl
theorem find_yes {x0 : List Coin} {r : Ref} (h : Rise x0) (hf : (impl_findCoin_v x0 r).2 = true) : gt x0 (impl_findCoin_v x0 r).1 ∈ x0 ∧ (gt x0 (impl_findCoin_v x0 r).1).fRef = r := by
 have hk := findCoin_key x0 r h.lt
 rw [hf, cond_true] at hk
 obtain ⟨i, hi, hp⟩ := List.exists_of_findSome?_eq_some hk
 have hlt : i < x0.length := by rw [List.mem_range'_1] at hi; omega
 cases hc : (((gt x0 (i : Int)).fRef.fTx == r.fTx) && ((gt x0 (i : Int)).fRef.fAt == r.fAt))
 ·rw [hc] at hp; cases hp
 ·rw [hc] at hp
  rw [← Option.some.inj hp]
  rw [Bool.and_eq_true, beq_iff_eq, beq_iff_eq] at hc
  exact ⟨gt_mem hlt, ref_ext hc.1 hc.2⟩
theorem find_no {x0 : List Coin} {r : Ref} (h : Rise x0) (hf : (impl_findCoin_v x0 r).2 = false) : ∀ c ∈ x0, c.fRef ≠ r := fun c hc e => by
 have hk := findCoin_key x0 r h.lt
 rw [hf, cond_false] at hk
 obtain ⟨i, hi, rfl⟩ := List.getElem_of_mem hc
 have := fs_all hk i hi
 rw [gt_eq (by simpa using hi)] at this
 simp only [Int.toNat_natCast] at this
 rw [e] at this
 simp at this
theorem among_iff (xs : List Ref) (x : Ref) : spec_l3Among_v xs x = true ↔ x ∈ xs := by
 unfold spec_l3Among_v
 rw [found_any]
 constructor
 ·intro h
  rw [bifb, List.any_eq_true] at h
  obtain ⟨i, hi, hp⟩ := h
  have hlt : i < xs.length := by rw [List.mem_range'_1] at hi; omega
  rw [Bool.and_eq_true, beq_iff_eq, beq_iff_eq] at hp
  have : gt xs (i : Int) = x := by
   cases hq : gt xs (i : Int); cases x
   rw [hq] at hp
   simp only at hp
   rw [hp.1, hp.2]
  rw [← this]; exact gt_mem hlt
 ·intro h
  obtain ⟨i, hi, rfl⟩ := List.getElem_of_mem h
  rw [bifb, List.any_eq_true]
  refine ⟨i, by rw [List.mem_range'_1]; omega, ?_⟩
  rw [gt_eq (by simpa using hi)]
  simp
theorem nodup_of_among {xs : List Ref} (h : ∀ i, i < xs.length → spec_l3Among_v (xs.take i) (gt xs (i : Int)) = false) : xs.Nodup := by
 unfold List.Nodup
 rw [List.pairwise_iff_getElem]
 intro i j hi hj hij e
 have := h j hj
 rw [gt_eq (by simpa using hj)] at this
 simp only [Int.toNat_natCast] at this
 have hm : xs[j] ∈ xs.take j := by
  rw [← e, List.mem_take_iff_getElem]
  exact ⟨i, by omega, rfl⟩
 rw [(among_iff _ _).2 hm] at this
 cases this
theorem sub_len {α : Type} : ∀ {l m : List α}, l.Nodup → (∀ a ∈ l, a ∈ m) → l.length ≤ m.length
 | [], m, _, _ => by simp
 | a :: l, m, h, hs => by
  rw [List.nodup_cons] at h
  obtain ⟨s, t, rfl⟩ := List.append_of_mem (hs a (by simp))
  have := sub_len (m := s ++ t) h.2 (fun b hb => by
   have hb' := hs b (by simp [hb])
   rcases List.mem_append.1 hb' with hb' | hb'
   ·exact List.mem_append_left _ hb'
   ·rcases List.mem_cons.1 hb' with rfl | hb'
    ·exact absurd hb h.1
    ·exact List.mem_append_right _ hb')
  simp at this ⊢; omega
structure TxIns (t : Tx) : Prop where
 ins1 : 1 ≤ t.fIns.length
 ins4 : t.fIns.length ≤ 4
 outs1 : 1 ≤ t.fOuts.length
 outs4 : t.fOuts.length ≤ 4
 nodup : t.fIns.Nodup
 outs : ∀ o ∈ t.fOuts, spec_l4Out_v o = 0
theorem tx_ins (x0 : Tx) (h0 : spec_l3Fault_v x0 = 0) : TxIns x0 := by
 unfold spec_l3Fault_v at h0
 cases hc : ((!(spec_l1In_v x0.fKind 0 2)) || ((x0.fKind == 0) != (x0.fMember == 0)))
 ·rw [hc] at h0
  cases hd : ((x0.fKind != 0) && (!(bif (x0.fKind != 0) then (spec_l1Key_v x0.fMember) else default)))
  ·rw [hd] at h0
   cases he : ((!(spec_l1In_v (x0.fIns.length : Int) 1 4)) || (!(bif (!(!(spec_l1In_v (x0.fIns.length : Int) 1 4))) then (spec_l1In_v (x0.fOuts.length : Int) 1 4) else default)))
   ·rw [he] at h0
    have h1 : onO ((List.range' 0 (x0.fIns.length - 0)).findSome? (fun (i0 : Nat) => (bif !(spec_l3Ref_v (gt x0.fIns (i0 : Int))) then (some (3 : Int)) else (bif (spec_l3Among_v (x0.fIns.take ((i0 : Int)).toNat) (gt x0.fIns (i0 : Int))) then (some 7) else none)))) (fun r => r) (spec_l3Outs_v x0) = 0 := h0
    obtain ⟨h2, h3⟩ := onO_zero h1 (fun i => by
     cases spec_l3Ref_v (gt x0.fIns (i : Int))
     ·simp
     ·cases spec_l3Among_v (x0.fIns.take ((i : Int)).toNat) (gt x0.fIns (i : Int)) <;> simp)
    have hk := fs_all h2
    unfold spec_l3Outs_v at h3
    obtain ⟨h4, _⟩ := onO_zero h3 (fun i => by
     cases spec_l1In_v ((gt x0.fOuts (i : Int)).fValue) 1 1000000
     ·simp
     ·cases hq : spec_l2Fault_v ((gt x0.fOuts (i : Int)).fRule) != 0
      ·simp
      ·simp only [Bool.not_true, cond_false, cond_true]
       intro e
       rw [Option.some.inj e] at hq; cases hq)
    have hl := fs_all h4
    simp only [spec_l1In_v, Bool.or_eq_false_iff, Bool.not_eq_false', Bool.and_eq_true, decide_eq_true_eq] at he
    obtain ⟨he1, he2⟩ := he
    have he3 : 1 ≤ (x0.fOuts.length : Int) ∧ (x0.fOuts.length : Int) ≤ 4 := by
     have e : (decide (1 ≤ (x0.fIns.length : Int)) && decide ((x0.fIns.length : Int) ≤ 4)) = true := by rw [Bool.and_eq_true, decide_eq_true_eq, decide_eq_true_eq]; exact he1
     rw [e] at he2
     have he2' : (decide (1 ≤ (x0.fOuts.length : Int)) && decide ((x0.fOuts.length : Int) ≤ 4)) = true := he2
     rwa [Bool.and_eq_true, decide_eq_true_eq, decide_eq_true_eq] at he2'
    refine ⟨by omega, by omega, by omega, by omega, nodup_of_among fun i hi => ?_, fun o ho => ?_⟩
    ·have h5 := hk i hi
     cases hr : spec_l3Ref_v (gt x0.fIns (i : Int))
     ·rw [hr] at h5; cases h5
     ·rw [hr] at h5
      simp only [Int.toNat_natCast, Bool.not_true, cond_false] at h5
      cases ha : spec_l3Among_v (x0.fIns.take i) (gt x0.fIns (i : Int))
      ·rfl
      ·rw [ha] at h5; cases h5
    ·obtain ⟨i, hi, rfl⟩ := List.getElem_of_mem ho
     have h5 := hl i hi
     rw [gt_eq (by simpa using hi)] at h5
     simp only [Int.toNat_natCast] at h5
     unfold spec_l4Out_v
     cases h6 : spec_l1In_v x0.fOuts[i].fValue 1 1000000
     ·rw [h6] at h5; cases h5
     ·rw [h6] at h5
      cases h7 : spec_l2Fault_v x0.fOuts[i].fRule != 0
      ·simpa using h7
      ·rw [h7] at h5; cases h5
   ·rw [he] at h0; exact absurd (show (2 : Int) = 0 from h0) (by decide)
  ·rw [hd] at h0; exact absurd (show (3 : Int) = 0 from h0) (by decide)
 ·rw [hc] at h0; exact absurd (show (1 : Int) = 0 from h0) (by decide)
def cnd (x0 : List Coin) (r : Ref) : Coin := gt x0 (impl_findCoin_v x0 r).1
theorem spent_filter (x0 : List Coin) (ins : List Ref) : (List.range' 0 (x0.length - 0)).foldl (fun ac1 (i0 : Nat) => (bif (spec_l3Among_v ins ((gt x0 (i0 : Int)).fRef)) then ((ac1 ++ ([(gt x0 (i0 : Int))] : List Coin))) else (ac1))) ([] : List Coin) = x0.filter (fun c => spec_l3Among_v ins c.fRef) := by
 have h := range_foldl x0 (fun ac (c : Coin) => bif spec_l3Among_v ins c.fRef then ac ++ [c] else ac) []
 refine Eq.trans h ?_
 have key : ∀ (xs ac : List Coin), xs.foldl (fun ac (c : Coin) => bif spec_l3Among_v ins c.fRef then ac ++ [c] else ac) ac = ac ++ xs.filter (fun c => spec_l3Among_v ins c.fRef) := by
  intro xs
  induction xs with
  | nil => intro ac; simp
  | cons a xs ih =>
   intro ac
   rw [List.foldl_cons, ih, List.filter_cons]
   cases spec_l3Among_v ins a.fRef <;> simp
 rw [key]; simp
def spentOf (x0 : List Coin) (ins : List Ref) : List Coin := x0.filter (fun c => spec_l3Among_v ins c.fRef)
theorem spent_mem {x0 : List Coin} {ins : List Ref} {c : Coin} (h : c ∈ spentOf x0 ins) : c ∈ x0 := (List.mem_filter.1 h).1
theorem spent_rise {x0 : List Coin} (h : Rise x0) (ins : List Ref) : Rise (spentOf x0 ins) := h.sub List.filter_sublist
theorem rise_nodup {xs : List Coin} (h : Rise xs) : xs.Nodup ∧ (xs.map (·.fRef)).Nodup := by
 refine ⟨h.2.imp fun {a b} hab e => ?_, ?_⟩
 ·subst e; unfold lexL at hab; omega
 ·unfold List.Nodup
  rw [List.pairwise_map]
  refine h.2.imp fun {a b} hab e => ?_
  rw [e] at hab; unfold lexL at hab; omega
theorem spent_perm {x0 : List Coin} (h : Rise x0) {ins : List Ref} (hn : ins.Nodup) (hall : ∀ r ∈ ins, (impl_findCoin_v x0 r).2 = true) : (ins.map (cnd x0)).Perm (spentOf x0 ins) := by
 have hmap : (ins.map (cnd x0)).map (·.fRef) = ins := by
  rw [List.map_map]
  conv => rhs; rw [← List.map_id ins]
  exact List.map_congr_left fun r hr => (find_yes h (hall r hr)).2
 have hn1 : (ins.map (cnd x0)).Nodup := by
  have : ((ins.map (cnd x0)).map (·.fRef)).Nodup := by rw [hmap]; exact hn
  unfold List.Nodup at this ⊢
  rw [List.pairwise_map] at this
  exact this.imp fun hab e => hab (by rw [e])
 rw [List.perm_ext_iff_of_nodup hn1 (rise_nodup (spent_rise h ins)).1]
 intro c
 constructor
 ·intro hc
  obtain ⟨r, hr, rfl⟩ := List.mem_map.1 hc
  obtain ⟨h1, h2⟩ := find_yes h (hall r hr)
  unfold spentOf
  rw [List.mem_filter]
  exact ⟨h1, (among_iff _ _).2 (by show (gt x0 (impl_findCoin_v x0 r).1).fRef ∈ ins; rw [h2]; exact hr)⟩
 ·intro hc
  unfold spentOf at hc
  rw [List.mem_filter] at hc
  have hr := (among_iff _ _).1 hc.2
  obtain ⟨h1, h2⟩ := find_yes h (hall _ hr)
  refine List.mem_map.2 ⟨c.fRef, hr, ?_⟩
  have hk := rise_keys h.2
  exact key_inj hk _ h1 c hc.1 (by show ((gt x0 (impl_findCoin_v x0 c.fRef).1).fRef.fTx, (gt x0 (impl_findCoin_v x0 c.fRef).1).fRef.fAt) = (c.fRef.fTx, c.fRef.fAt); rw [h2])
theorem spent_len {x0 : List Coin} (h : Rise x0) {ins : List Ref} (hn : ins.Nodup) : (((spentOf x0 ins).length : Int) == (ins.length : Int)) = ins.all (fun r => (impl_findCoin_v x0 r).2) := by
 cases ha : ins.all (fun r => (impl_findCoin_v x0 r).2)
 ·have hex : ∃ r ∈ ins, (impl_findCoin_v x0 r).2 = false := by
   rw [List.all_eq_false] at ha
   obtain ⟨r, hr, hf⟩ := ha
   exact ⟨r, hr, by simpa using hf⟩
  obtain ⟨r, hr, hf⟩ := hex
  have hno := find_no h hf
  have hl : (r :: (spentOf x0 ins).map (·.fRef)).length ≤ ins.length := sub_len (by
   rw [List.nodup_cons]
   refine ⟨fun hm => ?_, (rise_nodup (spent_rise h ins)).2⟩
   obtain ⟨c, hc, e⟩ := List.mem_map.1 hm
   exact hno c (spent_mem hc) e) (fun a ham => by
   rcases List.mem_cons.1 ham with rfl | ham
   ·exact hr
   ·obtain ⟨c, hc, rfl⟩ := List.mem_map.1 ham
    unfold spentOf at hc
    rw [List.mem_filter] at hc
    exact (among_iff _ _).1 hc.2)
  rw [List.length_cons, List.length_map] at hl
  simp; omega
 ·have hall : ∀ r ∈ ins, (impl_findCoin_v x0 r).2 = true := fun r hr => List.all_eq_true.1 ha r hr
  have := (spent_perm h hn hall).length_eq
  rw [List.length_map] at this
  rw [this]; simp
theorem spent_loop (x0 : List Coin) (x1 : Tx) (h_x0 : Lm smCoin x0) (hn : x1.fIns.length ≤ 1048576) : ∀ (d i : Nat) (s : List Coin), i + d = x1.fIns.length → s.length ≤ i → Evt (fun k => impl_spentBy.l0 x0 x1 k s (i : Int)) (bif (x1.fIns.drop i).all (fun r => (impl_findCoin_v x0 r).2) then .inr (s ++ (x1.fIns.drop i).map (cnd x0)) else .inl ([], 4))
 | 0, i, s, hi, hs => by
  refine Evt.s ?_
  simp only [impl_spentBy.l0_s]
  rw [List.drop_of_length_le (by omega)]
  exact Evt.f (ge_lt (by omega)) (Evt.ret (by simp))
 | d + 1, i, s, hi, hs => by
  have hlt : i < x1.fIns.length := by omega
  have hg : gt x1.fIns (i : Int) = x1.fIns[i] := gt_eq (by simpa using hlt)
  have ed : x1.fIns.drop i = x1.fIns[i] :: x1.fIns.drop (i + 1) := List.drop_eq_getElem_cons hlt
  refine Evt.s ?_
  simp only [impl_spentBy.l0_s, hg]
  rw [ed, List.all_cons, List.map_cons]
  refine Evt.t (int_lt hlt) (Evt.chk (idx_ok hlt) (Evt.bind (impl_findCoin_ev x0 x1.fIns[i] h_x0) ?_))
  cases hf : (impl_findCoin_v x0 x1.fIns[i]).2
  ·exact Evt.t rfl (Evt.ret (by simp))
  ·have hin := findCoin_in x0 x1.fIns[i] (by rw [hf]; rfl)
   refine Evt.f rfl (Evt.chk hin (Evt.chk (leB_of (by simp; omega)) ?_))
   rw [w64 hlt (by omega)]
   refine (spent_loop x0 x1 h_x0 hn d (i + 1) _ (by omega) (by simp; omega)).to ?_
   rw [Bool.true_and]
   simp only [List.append_assoc, List.cons_append, List.nil_append]
   rfl
def impl_spentBy_v (x0 : List Coin) (x1 : Tx) : (List Coin) × Int := bif x1.fIns.all (fun r => (impl_findCoin_v x0 r).2) then (spentOf x0 x1.fIns, 0) else ([], 4)
theorem impl_spentBy_ev (x0 : List Coin) (x1 : Tx) (h_x0 : Lm smCoin x0) (h_x1 : smTx x1) (hr : Rise x0) (ht : spec_l3Fault_v x1 = 0) : Evt (fun k => impl_spentBy.f k x0 x1) (impl_spentBy_v x0 x1) := by
 have hti := tx_ins x1 ht
 have hl := spent_loop x0 x1 h_x0 (by have := hti.ins4; omega) x1.fIns.length 0 [] (by omega) (by simp)
 rw [List.drop_zero, List.nil_append] at hl
 unfold impl_spentBy_v
 cases ha : x1.fIns.all (fun r => (impl_findCoin_v x0 r).2)
 ·rw [ha] at hl
  exact Evt.bind hl (Evt.self _)
 ·rw [ha] at hl
  have hall : ∀ r ∈ x1.fIns, (impl_findCoin_v x0 r).2 = true := fun r hr => List.all_eq_true.1 ha r hr
  have hp := spent_perm hr hti.nodup hall
  have hsl : (x1.fIns.map (cnd x0)).length ≤ 4 := by rw [List.length_map]; exact hti.ins4
  have hsm : Lm smCoin (x1.fIns.map (cnd x0)) := ⟨by omega, fun c hc => h_x0.2 c (spent_mem (hp.mem_iff.1 hc))⟩
  have eo := impl_ownCoins_ev _ hsm
  rw [ownCoins_id] at eo
  have hs := sort_uniq hp.symm (spent_rise hr x1.fIns).2
  have es := sorted_ev (x1.fIns.map (cnd x0)) (by omega) (((hp.map refKey).nodup_iff).2 (rise_keys (spent_rise hr x1.fIns).2))
  rw [hs] at es
  exact Evt.bind hl (Evt.bind eo (Evt.bind es (Evt.self _)))
theorem l5Spent_is (x0 : List Coin) (x1 : Tx) : spec_l5Spent_v x0 x1 = (spentOf x0 x1.fIns, ((spentOf x0 x1.fIns).length : Int) == (x1.fIns.length : Int)) := by
 unfold spec_l5Spent_v
 rw [spent_filter, l4Copy_id]; rfl
def ckL (rp : Coin → Bool) (mt : Coin → Int) : List Coin → Option (Int × Int)
 | [] => none
 | x :: r => bif !(rp x) then some (0, 9) else bif mt x != 0 then some (0, mt x) else ckL rp mt r
theorem ck_congr {rp rp' : Coin → Bool} {mt mt' : Coin → Int} : ∀ {L : List Coin}, (∀ x ∈ L, rp x = rp' x ∧ mt x = mt' x) → ckL rp mt L = ckL rp' mt' L
 | [], _ => rfl
 | x :: r, h => by
  unfold ckL
  rw [(h x (by simp)).1, (h x (by simp)).2, ck_congr (L := r) (fun y hy => h y (by simp [hy]))]
def ckRes : Option (Int × Int) → (Int × Int) ⊕ Unit
 | some r => .inl r
 | none => .inr ()
def feeRes (lv has : Bool) (fee : Int) : Int × Int := bif lv && !has then (0, 6) else bif decide (fee < 0) then (0, 8) else (fee, 0)
def ckFin (o : Option (Int × Int)) (r : Int × Int) : Int × Int := match o with
 | some q => q
 | none => r
theorem l5Check_loop (x0 : Ledger) (x3 x4 : Int) (T : (List Coin) × Bool) (hT : Lm smCoin T.1) (h0 : smLedger x0) : ∀ (d j : Nat), j + d = T.1.length → Evt (fun k => spec_l5Check.l0 x0 x3 x4 T k (j : Int)) (ckRes (ckL (fun x => spec_l5Ripe_v x x4) (fun x => spec_l2Met_v x0 x.fOut.fRule x3 x4) (T.1.drop j)))
 | 0, j, h => by
  refine Evt.s ?_
  simp only [spec_l5Check.l0_s]
  rw [List.drop_of_length_le (by omega)]
  exact Evt.f (decide_eq_false (by omega)) (Evt.self _)
 | d + 1, j, h => by
  have hl := hT.1
  have hj : j < T.1.length := by omega
  have e0 : T.1.drop j = gt T.1 (j : Int) :: T.1.drop (j + 1) := by rw [gt_eq (by simpa using hj)]; exact List.drop_eq_getElem_cons hj
  have ew : wrap64 ((j : Int) + 1) = ((j + 1 : Nat) : Int) := by rw [wrap64_in _ (by omega)]; omega
  have hm := hT.2 _ (gt_mem hj)
  refine Evt.s ?_
  simp only [spec_l5Check.l0_s, ew]
  rw [e0]
  unfold ckL
  refine Evt.t (int_lt hj) (Evt.chk (idx_ok hj) (Evt.bind (spec_l5Ripe_ev (gt T.1 (j : Int)) x4 hm) ?_))
  cases hr : spec_l5Ripe_v (gt T.1 (j : Int)) x4
  ·exact Evt.t rfl (Evt.self _)
  ·refine Evt.f rfl (Evt.chk (idx_ok hj) (Evt.bind (spec_l2Met_ev x0 (gt T.1 (j : Int)).fOut.fRule x3 x4 h0 hm.2.1.2) ?_))
   cases hq : spec_l2Met_v x0 (gt T.1 (j : Int)).fOut.fRule x3 x4 != 0
   ·exact Evt.f rfl (l5Check_loop x0 x3 x4 T hT h0 d (j + 1) (by omega))
   ·exact Evt.t rfl (Evt.self _)
def spec_l5Check_v (x0 : Ledger) (x1 : List Coin) (x2 : Tx) (x3 : Int) (x4 : Int) : Int × Int :=
 bif !(spec_l5Spent_v x1 x2).2 then (0, 4) else ckFin (ckL (fun x => spec_l5Ripe_v x x4) (fun x => spec_l2Met_v x0 x.fOut.fRule x3 x4) (spec_l5Spent_v x1 x2).1) (feeRes (x2.fKind == 2) (bif (x2.fKind == 2) then spec_l1Has_v x0 x2.fMember x3 else default) (wrap64 (spec_l4Sum_v (spec_l5Spent_v x1 x2).1 - spec_l3Sum_v x2)))
theorem spec_l5Check_ev (x0 : Ledger) (x1 : List Coin) (x2 : Tx) (x3 : Int) (x4 : Int) (h_x0 : smLedger x0) (h_x1 : Lm smCoin x1) (h_x2 : smTx x2) : Evt (fun k => spec_l5Check.f k x0 x1 x2 x3 x4) (spec_l5Check_v x0 x1 x2 x3 x4) := by
 have hT : Lm smCoin (spec_l5Spent_v x1 x2).1 := by rw [l5Spent_is]; exact Lm_sub h_x1 List.filter_sublist
 refine Evt.bind (spec_l5Spent_ev x1 x2 h_x1 h_x2) ?_
 unfold spec_l5Check_v
 cases hc : (spec_l5Spent_v x1 x2).2
 ·exact Evt.t rfl (Evt.self _)
 ·have e := l5Check_loop x0 x3 x4 (spec_l5Spent_v x1 x2) hT h_x0 (spec_l5Spent_v x1 x2).1.length 0 (by omega)
  rw [List.drop_zero] at e
  refine Evt.f rfl (Evt.bind e ?_)
  simp only [Bool.not_true, cond_false]
  cases ckL (fun x => spec_l5Ripe_v x x4) (fun x => spec_l2Met_v x0 x.fOut.fRule x3 x4) (spec_l5Spent_v x1 x2).1 with
  | some r => exact Evt.self _
  | none =>
   show Evt (fun k => (bif (x2.fKind == 2) then spec_l1Has.f k x0 x2.fMember x3 else some default).bind _) (feeRes _ _ _)
   refine Evt.bind (Evt.ifh (fun _ => spec_l1Has_ev x0 x2.fMember x3 h_x0) (fun _ => Evt.self _)) ?_
   unfold feeRes
   cases (x2.fKind == 2) && (!(bif (x2.fKind == 2) then spec_l1Has_v x0 x2.fMember x3 else default))
   ·refine Evt.f rfl (Evt.bind (spec_l4Sum_ev _ hT) (Evt.bind (spec_l3Sum_ev x2 h_x2) ?_))
    exact Evt.if_ (Evt.self _) (Evt.self _)
   ·exact Evt.t rfl (Evt.self _)
def spec_CheckTx_v (x0 : Ledger) (x1 : List Coin) (x2 : Tx) (x3 : Int) : IntResult := (bif ((spec_l1Fault_v x0) != 0) then (⟨(spec_l1Fault_v x0), 0⟩ : IntResult) else (bif ((spec_l4Fault_v x1) != 0) then (⟨(spec_l4Fault_v x1), 0⟩ : IntResult) else (bif ((spec_l3Fault_v x2) != 0) then (⟨(spec_l3Fault_v x2), 0⟩ : IntResult) else (bif !(spec_l2Height_v x3) then (⟨3, 0⟩ : IntResult) else (bif ((spec_TxText_v x2).fCode != 0) then (⟨(spec_TxText_v x2).fCode, 0⟩ : IntResult) else (bif ((spec_l1At_v x0.fTexts (spec_TxText_v x2).fText) == 0) then (⟨4, 0⟩ : IntResult) else (bif ((spec_l5Check_v x0 x1 x2 (spec_l1At_v x0.fTexts (spec_TxText_v x2).fText) x3).2 != 0) then (⟨(spec_l5Check_v x0 x1 x2 (spec_l1At_v x0.fTexts (spec_TxText_v x2).fText) x3).2, 0⟩ : IntResult) else (⟨0, (spec_l5Check_v x0 x1 x2 (spec_l1At_v x0.fTexts (spec_TxText_v x2).fText) x3).1⟩ : IntResult))))))))
theorem spec_CheckTx_ev (x0 : Ledger) (x1 : List Coin) (x2 : Tx) (x3 : Int) (h_x0 : smLedger x0) (h_x1 : (Lm smCoin) x1) (h_x2 : smTx x2) : Evt (fun k => spec_CheckTx.f k x0 x1 x2 x3) (spec_CheckTx_v x0 x1 x2 x3) :=
 (Evt.bind (spec_l1Fault_ev x0 (h_x0)) (Evt.ifh (fun hc6 => (Evt.self _)) (fun hc6 => (Evt.bind (spec_l4Fault_ev x1 (h_x1)) (Evt.ifh (fun hc5 => (Evt.self _)) (fun hc5 => (Evt.bind (spec_l3Fault_ev x2 (h_x2)) (Evt.ifh (fun hc4 => (Evt.self _)) (fun hc4 => (Evt.bind (spec_l2Height_ev x3) (Evt.ifh (fun hc3 => (Evt.self _)) (fun hc3 => (Evt.bind (spec_TxText_ev x2 (h_x2)) (Evt.ifh (fun hc2 => (Evt.self _)) (fun hc2 => (Evt.bind (spec_l1At_ev x0.fTexts (spec_TxText_v x2).fText (h_x0.1)) (Evt.ifh (fun hc1 => (Evt.self _)) (fun hc1 => (Evt.bind (spec_l5Check_ev x0 x1 x2 (spec_l1At_v x0.fTexts (spec_TxText_v x2).fText) x3 (h_x0) (h_x1) (h_x2)) (Evt.ifh (fun hc0 => (Evt.self _)) (fun hc0 => (Evt.self _))))))))))))))))))))))
theorem szStringS_ev (x : List ByteArray) (o : (Lok sOk) x) (l : Int) (h0 : 0 ≤ l) (h1 : l ≤ 1048576) : ∃ t, Evt (fun k => laws_szStringS.f k x l) t ∧ t ≤ l ∧ (0 ≤ t → (Lm tr) x) := by
 have hn := o.1
 have hn' : x.length ≤ 9223372036854775807 := by simpa [maxLen] using hn
 by_cases c : decide (szL x.length l < 0) = true
 ·refine ⟨-1, (Evt.t (f := fun _ => some (-1)) ?_ (Evt.self _)), by omega, fun h => by omega⟩
  have e : wrap64 (l - (x.length : Int)) = l - (x.length : Int) := by unfold wrap64; omega
  rw [e]
  by_cases c2 : l - (x.length : Int) < 0
  ·exact decide_eq_true c2
  ·unfold szL at c; rw [e, decide_eq_false c2] at c; simp at c; omega
 have c' : decide (szL x.length l < 0) = false := by simpa using c
 obtain ⟨h2, h3⟩ := szL_ok c' h0 h1 hn
 have e : wrap64 (l - (x.length : Int)) = l - (x.length : Int) := by unfold wrap64; omega
 obtain ⟨r, hr, hr2⟩ := Evt.szl (L := fun k left i => laws_szStringS.l0 x k left i) (sm := tr) x hn' (fun i hi left a0 a1 => by
  have hs := o.2 _ (gt_mem hi)
  have hs' : (gt x (i : Int)).size ≤ 9223372036854775807 := by simpa [maxLen, sOk] using hs
  have e : wrap64 (left - ((gt x (i : Int)).size : Int)) = left - ((gt x (i : Int)).size : Int) := by unfold wrap64; omega
  refine ⟨left - ((gt x (i : Int)).size : Int), by omega, fun _ => trivial, fun c => ?_, fun o c ho => ?_⟩
  ·refine Evt.s ?_
   simp only [laws_szStringS.l0_s]
   exact Evt.t (int_lt hi) (Evt.chk (idx_ok hi) (Evt.t (by rw [e]; simpa using c) (Evt.self _)))
  ·refine Evt.s ?_
   simp only [laws_szStringS.l0_s]
   exact Evt.t (int_lt hi) (Evt.chk (idx_ok hi) (Evt.f (by rw [e]; simpa using c) (by rw [e]; exact ho)))) (fun left => by
  refine Evt.s ?_
  simp only [laws_szStringS.l0_s]
  exact Evt.f int_nlt (Evt.self _)) (l - (x.length : Int)) (by omega) (by omega)
 refine ⟨onw r id id, Evt.f (by rw [e]; simpa using h2) (Evt.thn (r' := id) (g' := id) (by rw [e]; exact hr) (fun _ => rfl) (fun y _ => Evt.self y)), ?_, ?_⟩
 ·cases r with
  | inl r => have h5 : r = -1 := hr2; subst h5; show (-1 : Int) ≤ l; omega
  | inr t => have h5 : 0 ≤ t ∧ t ≤ l - (x.length : Int) ∧ _ := hr2; show t ≤ l; omega
 ·intro h
  cases r with
  | inl r => have h5 : r = -1 := hr2; subst h5; simp [onw] at h
  | inr t => have h5 : 0 ≤ t ∧ t ≤ l - (x.length : Int) ∧ _ := hr2; exact ⟨by omega, h5.2.2⟩
theorem szSignS_ev (x : List Sign) (o : (Lok okSign) x) (l : Int) (h0 : 0 ≤ l) (h1 : l ≤ 1048576) : ∃ t, Evt (fun k => laws_szSignS.f k x l) t ∧ t ≤ l ∧ (0 ≤ t → (Lm smSign) x) := by
 have hn := o.1
 exact ⟨szL x.length l, Evt.if_ (Evt.self _) (Evt.self _), szL_le h0 h1 hn, fun h => ⟨by have := szL_ok (n := x.length) (l := l) (by simpa using h) h0 h1 hn; omega, by simp⟩⟩
theorem szLedger_ev (x : Ledger) (o : okLedger x) (l : Int) (h0 : 0 ≤ l) (h1 : l ≤ 1048576) : ∃ t, Evt (fun k => laws_szLedger.f k x l) t ∧ t ≤ l ∧ (0 ≤ t → smLedger x) := by
 obtain ⟨t0, e0, l0, s0⟩ := szStringS_ev x.fTexts o.1 l (by omega) (by omega)
 by_cases c0 : t0 < 0
 ·exact ⟨-1, Evt.bind e0 (Evt.t (by simpa using c0) (Evt.self _)), by omega, fun h => by omega⟩
 obtain ⟨t1, e1, l1, s1⟩ := szSignS_ev x.fSigns o.2 t0 (by omega) (by omega)
 by_cases c1 : t1 < 0
 ·exact ⟨-1, Evt.bind e0 (Evt.f (by simpa using c0) (Evt.bind e1 (Evt.t (by simpa using c1) (Evt.self _)))), by omega, fun h => by omega⟩
 exact ⟨t1, Evt.bind e0 (Evt.f (by simpa using c0) (Evt.bind e1 (Evt.f (by simpa using c1) (Evt.self _)))), by omega, fun _ => ⟨s0 (by omega), s1 (by omega)⟩⟩
theorem szInt64S_ev (x : List Int) (o : (Lok (iOk .i64)) x) (l : Int) (h0 : 0 ≤ l) (h1 : l ≤ 1048576) : ∃ t, Evt (fun k => laws_szInt64S.f k x l) t ∧ t ≤ l ∧ (0 ≤ t → (Lm tr) x) := by
 have hn := o.1
 exact ⟨szL x.length l, Evt.if_ (Evt.self _) (Evt.self _), szL_le h0 h1 hn, fun h => ⟨by have := szL_ok (n := x.length) (l := l) (by simpa using h) h0 h1 hn; omega, by simp⟩⟩
theorem szRule_ev (x : Rule) (o : okRule x) (l : Int) (h0 : 0 ≤ l) (h1 : l ≤ 1048576) : ∃ t, Evt (fun k => laws_szRule.f k x l) t ∧ t ≤ l ∧ (0 ≤ t → smRule x) := by
 obtain ⟨t0, e0, l0, s0⟩ := szInt64S_ev x.fKeys o.1 l (by omega) (by omega)
 by_cases c0 : t0 < 0
 ·exact ⟨-1, Evt.bind e0 (Evt.t (by simpa using c0) (Evt.self _)), by omega, fun h => by omega⟩
 exact ⟨t0, Evt.bind e0 (Evt.f (by simpa using c0) (Evt.self _)), by omega, fun _ => ⟨s0 (by omega), (by repeat' (first | trivial | constructor)), (by repeat' (first | trivial | constructor))⟩⟩
theorem szOut_ev (x : Out) (o : okOut x) (l : Int) (h0 : 0 ≤ l) (h1 : l ≤ 1048576) : ∃ t, Evt (fun k => laws_szOut.f k x l) t ∧ t ≤ l ∧ (0 ≤ t → smOut x) := by
 obtain ⟨t0, e0, l0, s0⟩ := szRule_ev x.fRule o.2 l (by omega) (by omega)
 by_cases c0 : t0 < 0
 ·exact ⟨-1, Evt.bind e0 (Evt.t (by simpa using c0) (Evt.self _)), by omega, fun h => by omega⟩
 exact ⟨t0, Evt.bind e0 (Evt.f (by simpa using c0) (Evt.self _)), by omega, fun _ => ⟨(by repeat' (first | trivial | constructor)), s0 (by omega)⟩⟩
theorem szCoin_ev (x : Coin) (o : okCoin x) (l : Int) (h0 : 0 ≤ l) (h1 : l ≤ 1048576) : ∃ t, Evt (fun k => laws_szCoin.f k x l) t ∧ t ≤ l ∧ (0 ≤ t → smCoin x) := by
 obtain ⟨t0, e0, l0, s0⟩ := szOut_ev x.fOut o.2.1 l (by omega) (by omega)
 by_cases c0 : t0 < 0
 ·exact ⟨-1, Evt.bind e0 (Evt.t (by simpa using c0) (Evt.self _)), by omega, fun h => by omega⟩
 exact ⟨t0, Evt.bind e0 (Evt.f (by simpa using c0) (Evt.self _)), by omega, fun _ => ⟨(by repeat' (first | trivial | constructor)), s0 (by omega), (by repeat' (first | trivial | constructor)), (by repeat' (first | trivial | constructor))⟩⟩
theorem szCoinS_ev (x : List Coin) (o : (Lok okCoin) x) (l : Int) (h0 : 0 ≤ l) (h1 : l ≤ 1048576) : ∃ t, Evt (fun k => laws_szCoinS.f k x l) t ∧ t ≤ l ∧ (0 ≤ t → (Lm smCoin) x) := by
 have hn := o.1
 have hn' : x.length ≤ 9223372036854775807 := by simpa [maxLen] using hn
 by_cases c : decide (szL x.length l < 0) = true
 ·refine ⟨-1, (Evt.t (f := fun _ => some (-1)) ?_ (Evt.self _)), by omega, fun h => by omega⟩
  have e : wrap64 (l - (x.length : Int)) = l - (x.length : Int) := by unfold wrap64; omega
  rw [e]
  by_cases c2 : l - (x.length : Int) < 0
  ·exact decide_eq_true c2
  ·unfold szL at c; rw [e, decide_eq_false c2] at c; simp at c; omega
 have c' : decide (szL x.length l < 0) = false := by simpa using c
 obtain ⟨h2, h3⟩ := szL_ok c' h0 h1 hn
 have e : wrap64 (l - (x.length : Int)) = l - (x.length : Int) := by unfold wrap64; omega
 obtain ⟨r, hr, hr2⟩ := Evt.szl (L := fun k left i => laws_szCoinS.l0 x k left i) (sm := smCoin) x hn' (fun i hi left a0 a1 => by
  obtain ⟨t, e1, e2, e3⟩ := szCoin_ev (gt x (i : Int)) (o.2 _ (gt_mem hi)) left a0 a1
  refine ⟨t, e2, e3, fun c => ?_, fun o c ho => ?_⟩
  ·refine Evt.s ?_
   simp only [laws_szCoinS.l0_s]
   exact Evt.t (int_lt hi) (Evt.chk (idx_ok hi) (Evt.bind e1 (Evt.t (by simpa using c) (Evt.self _))))
  ·refine Evt.s ?_
   simp only [laws_szCoinS.l0_s]
   exact Evt.t (int_lt hi) (Evt.chk (idx_ok hi) (Evt.bind e1 (Evt.f (by simpa using c) ho)))) (fun left => by
  refine Evt.s ?_
  simp only [laws_szCoinS.l0_s]
  exact Evt.f int_nlt (Evt.self _)) (l - (x.length : Int)) (by omega) (by omega)
 refine ⟨onw r id id, Evt.f (by rw [e]; simpa using h2) (Evt.thn (r' := id) (g' := id) (by rw [e]; exact hr) (fun _ => rfl) (fun y _ => Evt.self y)), ?_, ?_⟩
 ·cases r with
  | inl r => have h5 : r = -1 := hr2; subst h5; show (-1 : Int) ≤ l; omega
  | inr t => have h5 : 0 ≤ t ∧ t ≤ l - (x.length : Int) ∧ _ := hr2; show t ≤ l; omega
 ·intro h
  cases r with
  | inl r => have h5 : r = -1 := hr2; subst h5; simp [onw] at h
  | inr t => have h5 : 0 ≤ t ∧ t ≤ l - (x.length : Int) ∧ _ := hr2; exact ⟨by omega, h5.2.2⟩
theorem szRefS_ev (x : List Ref) (o : (Lok okRef) x) (l : Int) (h0 : 0 ≤ l) (h1 : l ≤ 1048576) : ∃ t, Evt (fun k => laws_szRefS.f k x l) t ∧ t ≤ l ∧ (0 ≤ t → (Lm smRef) x) := by
 have hn := o.1
 exact ⟨szL x.length l, Evt.if_ (Evt.self _) (Evt.self _), szL_le h0 h1 hn, fun h => ⟨by have := szL_ok (n := x.length) (l := l) (by simpa using h) h0 h1 hn; omega, by simp⟩⟩
theorem szOutS_ev (x : List Out) (o : (Lok okOut) x) (l : Int) (h0 : 0 ≤ l) (h1 : l ≤ 1048576) : ∃ t, Evt (fun k => laws_szOutS.f k x l) t ∧ t ≤ l ∧ (0 ≤ t → (Lm smOut) x) := by
 have hn := o.1
 have hn' : x.length ≤ 9223372036854775807 := by simpa [maxLen] using hn
 by_cases c : decide (szL x.length l < 0) = true
 ·refine ⟨-1, (Evt.t (f := fun _ => some (-1)) ?_ (Evt.self _)), by omega, fun h => by omega⟩
  have e : wrap64 (l - (x.length : Int)) = l - (x.length : Int) := by unfold wrap64; omega
  rw [e]
  by_cases c2 : l - (x.length : Int) < 0
  ·exact decide_eq_true c2
  ·unfold szL at c; rw [e, decide_eq_false c2] at c; simp at c; omega
 have c' : decide (szL x.length l < 0) = false := by simpa using c
 obtain ⟨h2, h3⟩ := szL_ok c' h0 h1 hn
 have e : wrap64 (l - (x.length : Int)) = l - (x.length : Int) := by unfold wrap64; omega
 obtain ⟨r, hr, hr2⟩ := Evt.szl (L := fun k left i => laws_szOutS.l0 x k left i) (sm := smOut) x hn' (fun i hi left a0 a1 => by
  obtain ⟨t, e1, e2, e3⟩ := szOut_ev (gt x (i : Int)) (o.2 _ (gt_mem hi)) left a0 a1
  refine ⟨t, e2, e3, fun c => ?_, fun o c ho => ?_⟩
  ·refine Evt.s ?_
   simp only [laws_szOutS.l0_s]
   exact Evt.t (int_lt hi) (Evt.chk (idx_ok hi) (Evt.bind e1 (Evt.t (by simpa using c) (Evt.self _))))
  ·refine Evt.s ?_
   simp only [laws_szOutS.l0_s]
   exact Evt.t (int_lt hi) (Evt.chk (idx_ok hi) (Evt.bind e1 (Evt.f (by simpa using c) ho)))) (fun left => by
  refine Evt.s ?_
  simp only [laws_szOutS.l0_s]
  exact Evt.f int_nlt (Evt.self _)) (l - (x.length : Int)) (by omega) (by omega)
 refine ⟨onw r id id, Evt.f (by rw [e]; simpa using h2) (Evt.thn (r' := id) (g' := id) (by rw [e]; exact hr) (fun _ => rfl) (fun y _ => Evt.self y)), ?_, ?_⟩
 ·cases r with
  | inl r => have h5 : r = -1 := hr2; subst h5; show (-1 : Int) ≤ l; omega
  | inr t => have h5 : 0 ≤ t ∧ t ≤ l - (x.length : Int) ∧ _ := hr2; show t ≤ l; omega
 ·intro h
  cases r with
  | inl r => have h5 : r = -1 := hr2; subst h5; simp [onw] at h
  | inr t => have h5 : 0 ≤ t ∧ t ≤ l - (x.length : Int) ∧ _ := hr2; exact ⟨by omega, h5.2.2⟩
theorem szTx_ev (x : Tx) (o : okTx x) (l : Int) (h0 : 0 ≤ l) (h1 : l ≤ 1048576) : ∃ t, Evt (fun k => laws_szTx.f k x l) t ∧ t ≤ l ∧ (0 ≤ t → smTx x) := by
 obtain ⟨t0, e0, l0, s0⟩ := szRefS_ev x.fIns o.2.2.1 l (by omega) (by omega)
 by_cases c0 : t0 < 0
 ·exact ⟨-1, Evt.bind e0 (Evt.t (by simpa using c0) (Evt.self _)), by omega, fun h => by omega⟩
 obtain ⟨t1, e1, l1, s1⟩ := szOutS_ev x.fOuts o.2.2.2 t0 (by omega) (by omega)
 by_cases c1 : t1 < 0
 ·exact ⟨-1, Evt.bind e0 (Evt.f (by simpa using c0) (Evt.bind e1 (Evt.t (by simpa using c1) (Evt.self _)))), by omega, fun h => by omega⟩
 exact ⟨t1, Evt.bind e0 (Evt.f (by simpa using c0) (Evt.bind e1 (Evt.f (by simpa using c1) (Evt.self _)))), by omega, fun _ => ⟨(by repeat' (first | trivial | constructor)), (by repeat' (first | trivial | constructor)), s0 (by omega), s1 (by omega)⟩⟩
theorem toStringS_ev (x : List ByteArray) (h : (Lm tr) x) : Evt (fun k => laws_toStringS.f k x) x := by
 have hn := h.1
 refine Evt.chk (by simp) (Evt.chk (by simp [leB]; omega) (Evt.bind (a := x) ?_ (Evt.self _)))
 have := Evt.copy (L := fun k acc i => laws_toStringS.l0 x k acc i) x id (by omega) (fun acc i hl hi r hr => ?_) (fun acc => ?_) (List.replicate ((x.length : Int)).toNat (⟨#[]⟩ : ByteArray)) (by simp)
 ·simpa using this
 ·refine Evt.s ?_
  simp only [laws_toStringS.l0_s]
  refine Evt.t (int_lt hi) (Evt.chk (idx_ok hi) (Evt.chk (idx_ok (hl ▸ hi)) ?_))
  simpa using hr
 ·refine Evt.s ?_
  simp only [laws_toStringS.l0_s]
  exact Evt.f int_nlt (Evt.self _)
theorem toSign_ev (x : Sign) (h : smSign x) : Evt (fun k => laws_toSign.f k x) x := Evt.self _
theorem toSignS_ev (x : List Sign) (h : (Lm smSign) x) : Evt (fun k => laws_toSignS.f k x) x := by
 have hn := h.1
 refine Evt.chk (by simp) (Evt.chk (by simp [leB]; omega) (Evt.bind (a := x) ?_ (Evt.self _)))
 have := Evt.copy (L := fun k acc i => laws_toSignS.l0 x k acc i) x id (by omega) (fun acc i hl hi r hr => ?_) (fun acc => ?_) (List.replicate ((x.length : Int)).toNat (⟨0, 0⟩ : Sign)) (by simp)
 ·simpa using this
 ·refine Evt.s ?_
  simp only [laws_toSignS.l0_s]
  refine Evt.t (int_lt hi) (Evt.chk (idx_ok hi) (Evt.bind (toSign_ev _ (h.2 _ (gt_mem hi))) (Evt.chk (idx_ok (hl ▸ hi)) ?_)))
  simpa using hr
 ·refine Evt.s ?_
  simp only [laws_toSignS.l0_s]
  exact Evt.f int_nlt (Evt.self _)
theorem toLedger_ev (x : Ledger) (h : smLedger x) : Evt (fun k => laws_toLedger.f k x) x := Evt.bind (toStringS_ev _ h.1) (Evt.bind (toSignS_ev _ h.2) (Evt.self _))
theorem toRef_ev (x : Ref) (h : smRef x) : Evt (fun k => laws_toRef.f k x) x := Evt.self _
theorem toInt64S_ev (x : List Int) (h : (Lm tr) x) : Evt (fun k => laws_toInt64S.f k x) x := by
 have hn := h.1
 refine Evt.chk (by simp) (Evt.chk (by simp [leB]; omega) (Evt.bind (a := x) ?_ (Evt.self _)))
 have := Evt.copy (L := fun k acc i => laws_toInt64S.l0 x k acc i) x id (by omega) (fun acc i hl hi r hr => ?_) (fun acc => ?_) (List.replicate ((x.length : Int)).toNat 0) (by simp)
 ·simpa using this
 ·refine Evt.s ?_
  simp only [laws_toInt64S.l0_s]
  refine Evt.t (int_lt hi) (Evt.chk (idx_ok hi) (Evt.chk (idx_ok (hl ▸ hi)) ?_))
  simpa using hr
 ·refine Evt.s ?_
  simp only [laws_toInt64S.l0_s]
  exact Evt.f int_nlt (Evt.self _)
theorem toRule_ev (x : Rule) (h : smRule x) : Evt (fun k => laws_toRule.f k x) x := Evt.bind (toInt64S_ev _ h.1) (Evt.self _)
theorem toOut_ev (x : Out) (h : smOut x) : Evt (fun k => laws_toOut.f k x) x := Evt.bind (toRule_ev _ h.2) (Evt.self _)
theorem toCoin_ev (x : Coin) (h : smCoin x) : Evt (fun k => laws_toCoin.f k x) x := Evt.bind (toRef_ev _ h.1) (Evt.bind (toOut_ev _ h.2.1) (Evt.self _))
theorem toCoinS_ev (x : List Coin) (h : (Lm smCoin) x) : Evt (fun k => laws_toCoinS.f k x) x := by
 have hn := h.1
 refine Evt.chk (by simp) (Evt.chk (by simp [leB]; omega) (Evt.bind (a := x) ?_ (Evt.self _)))
 have := Evt.copy (L := fun k acc i => laws_toCoinS.l0 x k acc i) x id (by omega) (fun acc i hl hi r hr => ?_) (fun acc => ?_) (List.replicate ((x.length : Int)).toNat (⟨(⟨0, 0⟩ : Ref), (⟨0, (⟨[], 0, 0⟩ : Rule)⟩ : Out), 0, false⟩ : Coin)) (by simp)
 ·simpa using this
 ·refine Evt.s ?_
  simp only [laws_toCoinS.l0_s]
  refine Evt.t (int_lt hi) (Evt.chk (idx_ok hi) (Evt.bind (toCoin_ev _ (h.2 _ (gt_mem hi))) (Evt.chk (idx_ok (hl ▸ hi)) ?_)))
  simpa using hr
 ·refine Evt.s ?_
  simp only [laws_toCoinS.l0_s]
  exact Evt.f int_nlt (Evt.self _)
theorem toRefS_ev (x : List Ref) (h : (Lm smRef) x) : Evt (fun k => laws_toRefS.f k x) x := by
 have hn := h.1
 refine Evt.chk (by simp) (Evt.chk (by simp [leB]; omega) (Evt.bind (a := x) ?_ (Evt.self _)))
 have := Evt.copy (L := fun k acc i => laws_toRefS.l0 x k acc i) x id (by omega) (fun acc i hl hi r hr => ?_) (fun acc => ?_) (List.replicate ((x.length : Int)).toNat (⟨0, 0⟩ : Ref)) (by simp)
 ·simpa using this
 ·refine Evt.s ?_
  simp only [laws_toRefS.l0_s]
  refine Evt.t (int_lt hi) (Evt.chk (idx_ok hi) (Evt.bind (toRef_ev _ (h.2 _ (gt_mem hi))) (Evt.chk (idx_ok (hl ▸ hi)) ?_)))
  simpa using hr
 ·refine Evt.s ?_
  simp only [laws_toRefS.l0_s]
  exact Evt.f int_nlt (Evt.self _)
theorem toOutS_ev (x : List Out) (h : (Lm smOut) x) : Evt (fun k => laws_toOutS.f k x) x := by
 have hn := h.1
 refine Evt.chk (by simp) (Evt.chk (by simp [leB]; omega) (Evt.bind (a := x) ?_ (Evt.self _)))
 have := Evt.copy (L := fun k acc i => laws_toOutS.l0 x k acc i) x id (by omega) (fun acc i hl hi r hr => ?_) (fun acc => ?_) (List.replicate ((x.length : Int)).toNat (⟨0, (⟨[], 0, 0⟩ : Rule)⟩ : Out)) (by simp)
 ·simpa using this
 ·refine Evt.s ?_
  simp only [laws_toOutS.l0_s]
  refine Evt.t (int_lt hi) (Evt.chk (idx_ok hi) (Evt.bind (toOut_ev _ (h.2 _ (gt_mem hi))) (Evt.chk (idx_ok (hl ▸ hi)) ?_)))
  simpa using hr
 ·refine Evt.s ?_
  simp only [laws_toOutS.l0_s]
  exact Evt.f int_nlt (Evt.self _)
theorem toTx_ev (x : Tx) (h : smTx x) : Evt (fun k => laws_toTx.f k x) x := Evt.bind (toRefS_ev _ h.2.2.1) (Evt.bind (toOutS_ev _ h.2.2.2) (Evt.self _))
def impl_isText_v (x0 : ByteArray) : Bool := (impl_within_v (x0.size : Int) 1 300)
theorem impl_isText_ev (x0 : ByteArray)  : Evt (fun k => impl_isText.f k x0) (impl_isText_v x0) :=
 (Evt.bind (impl_within_ev (x0.size : Int) 1 300) (Evt.self _))
def slices_Index_string_v (x0 : List ByteArray) (x1 : ByteArray) : Int := (onO ((List.range' 0 (x0.length - 0)).findSome? (fun (i0 : Nat) => (bif (sEq x1 (gt x0 (i0 : Int))) then (some (i0 : Int)) else none))) (fun r => r) (-1))
theorem slices_Index_string_ev (x0 : List ByteArray) (x1 : ByteArray) (h_x0 : (Lm tr) x0) : Evt (fun k => slices_Index_string.f k x0 x1) (slices_Index_string_v x0 x1) :=
 (Evt.loop (r' := fun r => r) (Evt.srch (L := (fun k i => slices_Index_string.l0 x0 x1 k i)) 0 x0.length (by have := h_x0; first | (have := this.1; omega) | omega) (fun (i0 : Nat) => (bif (sEq x1 (gt x0 (i0 : Int))) then (some (i0 : Int)) else none)) (fun i0 hs2 hi2 => by
 have hbn : x0.length ≤ 9223372036854775807 := (by have := h_x0; first | (have := this.1; omega) | omega)
 simp only [slices_Index_string.l0_s]
 exact Evt_t2 (int_lt hi2) (StE.chk (by first | exact idx_ok (by omega) | exact idx_ok (by have hq := len_eq (by assumption); omega) | exact idx_found (show (0 : Int) ≤ (i0 : Int) by simp_all) | exact cut_ok (by omega) | exact or_ok (idx_ok (by omega)) | (refine or1 (fun hz => pre_ok (by simp at hz; omega) (by omega) (by omega))) | exact pre_ok (by omega) (by omega) (by omega) | (simp_all [idxOk, cutOk, leB]; done) | (simp_all [idxOk, cutOk, leB]; omega) | (simp [idxOk, cutOk, leB] at *; omega) | (have hf0 := h_x0.1; simp only [leB, decide_eq_true_eq, List.length_append, List.length_cons, List.length_nil]; omega)) (StE.ifh (fun hc1 => (StE.ret _)) (fun hc1 => StE.next)))) (fun j hj => by
 simp only [slices_Index_string.l0_s]
 exact Evt.f (ge_lt hj) (Evt.self _))) (fun _ => rfl) (Evt.self _))
def slices_Contains_string_v (x0 : List ByteArray) (x1 : ByteArray) : Bool := (decide (0 ≤ (slices_Index_string_v x0 x1)))
theorem slices_Contains_string_ev (x0 : List ByteArray) (x1 : ByteArray) (h_x0 : (Lm tr) x0) : Evt (fun k => slices_Contains_string.f k x0 x1) (slices_Contains_string_v x0 x1) :=
 (Evt.bind (slices_Index_string_ev x0 x1 (h_x0)) (Evt.self _))
theorem slices_Contains_string_any (x0 : List ByteArray) (x1 : ByteArray) : slices_Contains_string_v x0 x1 = (List.range' 0 (x0.length - 0)).any (fun (i0 : Nat) => (sEq x1 (gt x0 (i0 : Int)))) := idx_any _ _
def slices_Index_impl_Sign_v (x0 : List Sign) (x1 : Sign) : Int := (onO ((List.range' 0 (x0.length - 0)).findSome? (fun (i0 : Nat) => (bif ((x1.fKey == ((gt x0 (i0 : Int)).fKey)) && (x1.fId == ((gt x0 (i0 : Int)).fId))) then (some (i0 : Int)) else none))) (fun r => r) (-1))
theorem slices_Index_impl_Sign_ev (x0 : List Sign) (x1 : Sign) (h_x0 : (Lm smSign) x0) : Evt (fun k => slices_Index_impl_Sign.f k x0 x1) (slices_Index_impl_Sign_v x0 x1) :=
 (Evt.loop (r' := fun r => r) (Evt.srch (L := (fun k i => slices_Index_impl_Sign.l0 x0 x1 k i)) 0 x0.length (by have := h_x0; first | (have := this.1; omega) | omega) (fun (i0 : Nat) => (bif ((x1.fKey == ((gt x0 (i0 : Int)).fKey)) && (x1.fId == ((gt x0 (i0 : Int)).fId))) then (some (i0 : Int)) else none)) (fun i0 hs2 hi2 => by
 have hbn : x0.length ≤ 9223372036854775807 := (by have := h_x0; first | (have := this.1; omega) | omega)
 simp only [slices_Index_impl_Sign.l0_s]
 exact Evt_t2 (int_lt hi2) (StE.chk (by first | exact idx_ok (by omega) | exact idx_ok (by have hq := len_eq (by assumption); omega) | exact idx_found (show (0 : Int) ≤ (i0 : Int) by simp_all) | exact cut_ok (by omega) | exact or_ok (idx_ok (by omega)) | (refine or1 (fun hz => pre_ok (by simp at hz; omega) (by omega) (by omega))) | exact pre_ok (by omega) (by omega) (by omega) | (simp_all [idxOk, cutOk, leB]; done) | (simp_all [idxOk, cutOk, leB]; omega) | (simp [idxOk, cutOk, leB] at *; omega) | (have hf0 := h_x0.1; simp only [leB, decide_eq_true_eq, List.length_append, List.length_cons, List.length_nil]; omega)) (StE.ifh (fun hc1 => (StE.ret _)) (fun hc1 => StE.next)))) (fun j hj => by
 simp only [slices_Index_impl_Sign.l0_s]
 exact Evt.f (ge_lt hj) (Evt.self _))) (fun _ => rfl) (Evt.self _))
def slices_Contains_impl_Sign_v (x0 : List Sign) (x1 : Sign) : Bool := (decide (0 ≤ (slices_Index_impl_Sign_v x0 x1)))
theorem slices_Contains_impl_Sign_ev (x0 : List Sign) (x1 : Sign) (h_x0 : (Lm smSign) x0) : Evt (fun k => slices_Contains_impl_Sign.f k x0 x1) (slices_Contains_impl_Sign_v x0 x1) :=
 (Evt.bind (slices_Index_impl_Sign_ev x0 x1 (h_x0)) (Evt.self _))
theorem slices_Contains_impl_Sign_any (x0 : List Sign) (x1 : Sign) : slices_Contains_impl_Sign_v x0 x1 = (List.range' 0 (x0.length - 0)).any (fun (i0 : Nat) => ((x1.fKey == ((gt x0 (i0 : Int)).fKey)) && (x1.fId == ((gt x0 (i0 : Int)).fId)))) := idx_any _ _
def impl_LedgerFault_v (x0 : Ledger) : Int := (bif ((decide (60 < (x0.fTexts.length : Int))) || (decide (120 < (x0.fSigns.length : Int)))) then 2 else (onO ((List.range' 0 (x0.fTexts.length - 0)).findSome? (fun (i0 : Nat) => (bif !(impl_isText_v (gt x0.fTexts (i0 : Int))) then (some 2) else (bif (slices_Contains_string_v (x0.fTexts.take ((i0 : Int)).toNat) (gt x0.fTexts (i0 : Int))) then (some 7) else none)))) (fun r => r) (onO ((List.range' 0 (x0.fSigns.length - 0)).findSome? (fun (i3 : Nat) => (bif ((!(impl_isKey_v ((gt x0.fSigns (i3 : Int)).fKey))) || (!(bif (!(!(impl_isKey_v ((gt x0.fSigns (i3 : Int)).fKey)))) then (impl_within_v ((gt x0.fSigns (i3 : Int)).fId) 1 (x0.fTexts.length : Int)) else default))) then (some 3) else (bif (slices_Contains_impl_Sign_v (x0.fSigns.take ((i3 : Int)).toNat) (gt x0.fSigns (i3 : Int))) then (some 7) else none)))) (fun r => r) 0)))
theorem impl_LedgerFault_ev (x0 : Ledger) (h_x0 : smLedger x0) : Evt (fun k => impl_LedgerFault.f k x0) (impl_LedgerFault_v x0) :=
 (Evt.ifh (fun hc6 => (Evt.self _)) (fun hc6 => (Evt.loop (r' := fun r => r) (Evt.srch (L := (fun k i => impl_LedgerFault.l0 x0 k i)) 0 x0.fTexts.length (by have := h_x0.1; first | (have := this.1; omega) | omega) (fun (i0 : Nat) => (bif !(impl_isText_v (gt x0.fTexts (i0 : Int))) then (some 2) else (bif (slices_Contains_string_v (x0.fTexts.take ((i0 : Int)).toNat) (gt x0.fTexts (i0 : Int))) then (some 7) else none))) (fun i0 hs3 hi3 => by
 have hbn : x0.fTexts.length ≤ 9223372036854775807 := (by have := h_x0.1; first | (have := this.1; omega) | omega)
 simp only [impl_LedgerFault.l0_s]
 exact Evt_t2 (int_lt hi3) (StE.chk (by first | exact idx_ok (by omega) | exact idx_ok (by have hq := len_eq (by assumption); omega) | exact idx_found (show (0 : Int) ≤ (i0 : Int) by simp_all) | exact cut_ok (by omega) | exact or_ok (idx_ok (by omega)) | (refine or1 (fun hz => pre_ok (by simp at hz; omega) (by omega) (by omega))) | exact pre_ok (by omega) (by omega) (by omega) | (simp_all [idxOk, cutOk, leB]; done) | (simp_all [idxOk, cutOk, leB]; omega) | (simp [idxOk, cutOk, leB] at *; omega) | (have hf0 := h_x0.1.1; have hf1 := h_x0.2.1; simp only [leB, decide_eq_true_eq, List.length_append, List.length_cons, List.length_nil]; omega)) (StE.bind (impl_isText_ev (gt x0.fTexts (i0 : Int))) (StE.ifh (fun hc2 => (StE.ret _)) (fun hc2 => (StE.chk (by first | exact idx_ok (by omega) | exact idx_ok (by have hq := len_eq (by assumption); omega) | exact idx_found (by simp_all) | exact cut_ok (by omega) | exact or_ok (idx_ok (by omega)) | (refine or1 (fun hz => pre_ok (by simp at hz; omega) (by omega) (by omega))) | exact pre_ok (by omega) (by omega) (by omega) | (simp_all [idxOk, cutOk, leB]; done) | (simp_all [idxOk, cutOk, leB]; omega) | (simp [idxOk, cutOk, leB] at *; omega) | (have hf0 := h_x0.1.1; have hf1 := h_x0.2.1; simp only [leB, decide_eq_true_eq, List.length_append, List.length_cons, List.length_nil]; omega)) (StE.bind (slices_Contains_string_ev (x0.fTexts.take ((i0 : Int)).toNat) (gt x0.fTexts (i0 : Int)) ((Lm_take h_x0.1))) (StE.ifh (fun hc1 => (StE.ret _)) (fun hc1 => StE.next))))))))) (fun j hj => by
 simp only [impl_LedgerFault.l0_s]
 exact Evt.f (ge_lt hj) (Evt.self _))) (fun _ => rfl) (Evt.loop (r' := fun r => r) (Evt.srch (L := (fun k i => impl_LedgerFault.l1 x0 k i)) 0 x0.fSigns.length (by have := h_x0.2; first | (have := this.1; omega) | omega) (fun (i3 : Nat) => (bif ((!(impl_isKey_v ((gt x0.fSigns (i3 : Int)).fKey))) || (!(bif (!(!(impl_isKey_v ((gt x0.fSigns (i3 : Int)).fKey)))) then (impl_within_v ((gt x0.fSigns (i3 : Int)).fId) 1 (x0.fTexts.length : Int)) else default))) then (some 3) else (bif (slices_Contains_impl_Sign_v (x0.fSigns.take ((i3 : Int)).toNat) (gt x0.fSigns (i3 : Int))) then (some 7) else none))) (fun i3 hs6 hi6 => by
 have hbn : x0.fSigns.length ≤ 9223372036854775807 := (by have := h_x0.2; first | (have := this.1; omega) | omega)
 simp only [impl_LedgerFault.l1_s]
 exact Evt_t2 (int_lt hi6) (StE.chk (by first | exact idx_ok (by omega) | exact idx_ok (by have hq := len_eq (by assumption); omega) | exact idx_found (show (0 : Int) ≤ (i3 : Int) by simp_all) | exact cut_ok (by omega) | exact or_ok (idx_ok (by omega)) | (refine or1 (fun hz => pre_ok (by simp at hz; omega) (by omega) (by omega))) | exact pre_ok (by omega) (by omega) (by omega) | (simp_all [idxOk, cutOk, leB]; done) | (simp_all [idxOk, cutOk, leB]; omega) | (simp [idxOk, cutOk, leB] at *; omega) | (have hf0 := h_x0.1.1; have hf1 := h_x0.2.1; simp only [leB, decide_eq_true_eq, List.length_append, List.length_cons, List.length_nil]; omega)) (StE.bind (impl_isKey_ev ((gt x0.fSigns (i3 : Int)).fKey)) (StE.bind (Evt.ifh (fun _ => (impl_within_ev ((gt x0.fSigns (i3 : Int)).fId) 1 (x0.fTexts.length : Int))) (fun _ => Evt.self _)) (StE.ifh (fun hc5 => (StE.ret _)) (fun hc5 => (StE.chk (by first | exact idx_ok (by omega) | exact idx_ok (by have hq := len_eq (by assumption); omega) | exact idx_found (by simp_all) | exact cut_ok (by omega) | exact or_ok (idx_ok (by omega)) | (refine or1 (fun hz => pre_ok (by simp at hz; omega) (by omega) (by omega))) | exact pre_ok (by omega) (by omega) (by omega) | (simp_all [idxOk, cutOk, leB]; done) | (simp_all [idxOk, cutOk, leB]; omega) | (simp [idxOk, cutOk, leB] at *; omega) | (have hf0 := h_x0.1.1; have hf1 := h_x0.2.1; simp only [leB, decide_eq_true_eq, List.length_append, List.length_cons, List.length_nil]; omega)) (StE.bind (slices_Contains_impl_Sign_ev (x0.fSigns.take ((i3 : Int)).toNat) (gt x0.fSigns (i3 : Int)) ((Lm_take h_x0.2))) (StE.ifh (fun hc4 => (StE.ret _)) (fun hc4 => StE.next)))))))))) (fun j hj => by
 simp only [impl_LedgerFault.l1_s]
 exact Evt.f (ge_lt hj) (Evt.self _))) (fun _ => rfl) (Evt.self _)))))
theorem strconv_FormatInt_ev (n : Int) (h0 : 0 ≤ n) (h1 : n ≤ 1000000) : Evt (fun k => strconv_FormatInt.f k n 10) (mkB (dgL n)) := by
 refine Evt.chk ?_ (Evt.ret (itoa_dg n h0))
 have e1 : decide ((-9223372036854775808 : Int) ≤ n) = true := decide_eq_true (by omega)
 have e2 : decide (n ≤ (9223372036854775807 : Int)) = true := decide_eq_true (by omega)
 rw [e1, e2]; rfl
theorem impl_dec_ev (n : Int) (h0 : 0 ≤ n) (h1 : n ≤ 1000000) : Evt (fun k => impl_dec.f k n) (mkB (dgL n)) := Evt.bind (strconv_FormatInt_ev n h0 h1) (Evt.self _)
theorem strings_Join_ev (xs : List (List UInt8)) (sep : List UInt8) (hn : xs.length ≤ 1000000) (hl : (Lib.join xs sep).length ≤ 1000000) : Evt (fun k => strings_Join.f k (xs.map mkB) (mkB sep)) (mkB (Lib.join xs sep)) := by
 have e1 : (xs.map mkB).map (·.data.toList) = xs := by rw [List.map_map]; simp [mkB, Function.comp_def]
 have e2 : (mkB sep).data.toList = sep := by simp [mkB]
 unfold strings_Join.f
 rw [e1, e2]
 refine Evt.chk ?_ (Evt.self _)
 rw [Bool.and_eq_true]
 exact ⟨decide_eq_true (by rw [List.length_map]; omega), decide_eq_true (by omega)⟩
theorem impl_joined_ev (xs : List Int) (sep : List UInt8) (hn : xs.length ≤ 1000) (hk : ∀ x ∈ xs, 0 ≤ x ∧ x ≤ 999) (hl : (Lib.join (xs.map dgL) sep).length ≤ 1000000) : Evt (fun k => impl_joined.f k xs (mkB sep)) (mkB (Lib.join (xs.map dgL) sep)) := by
 have h1 := Evt.gatherL (L := fun k ac i => impl_joined.l0 xs k ac i) xs.length (by omega) (fun ac i => ac ++ [mkB (dgL (gt xs (i : Int)))]) (fun i hi a ha => by simp; omega) (fun i hi a ha o hg => by
  have hx := hk _ (gt_mem hi)
  simp only [impl_joined.l0_s]
  refine Evt.t (int_lt hi) (Evt.chk (idx_ok hi) (Evt.bind (impl_dec_ev (gt xs (i : Int)) (by omega) (by omega)) (Evt.chk ?_ hg)))
  refine decide_eq_true ?_
  simp only [List.length_cons, List.length_nil]; omega) (fun i a hi => by
  simp only [impl_joined.l0_s]
  exact Evt.f (ge_lt hi) (Evt.self _))
 have e := range_foldl xs (fun (ac : List ByteArray) x => ac ++ [mkB (dgL x)]) []
 have e2 := fold_map (fun x => mkB (dgL x)) xs []
 have h2 : Evt (fun k => impl_joined.l0 xs k [] 0) ((xs.map dgL).map mkB) := h1.to (e.trans (e2.trans (by rw [List.nil_append, List.map_map]; rfl)))
 refine Evt.bind h2 (Evt.bind (strings_Join_ev (xs.map dgL) sep (by rw [List.length_map]; omega) hl) (Evt.self _))
theorem impl_ruleText_ev (r : Rule) (bl : List UInt8) (hb : bl.length ≤ 8) (hr : RuleOK r) : Evt (fun k => impl_ruleText.f k r (mkB bl)) (mkB (ruleL r bl)) := by
 have hj := join3 r.fKeys hr.n1 hr.n3 hr.key
 have hd := dg3 r.fNeed (by have := hr.need; omega) (by have := hr.need; omega)
 have hf := dg3 r.fAfter hr.after.1 hr.after.2
 have c1 : (⟨#[111, 102]⟩ : ByteArray) = mkB [111, 102] := rfl
 have c2 : (⟨#[44]⟩ : ByteArray) = mkB [44] := rfl
 have c3 : (⟨#[97, 102, 116, 101, 114]⟩ : ByteArray) = mkB [97, 102, 116, 101, 114] := rfl
 unfold impl_ruleText.f
 simp only [c1, c2, c3]
 refine Evt.bind (impl_dec_ev r.fNeed (by have := hr.need; omega) (by have := hr.need; omega)) ?_
 simp only [mkB_append, mkB_size, List.length_append, List.length_cons, List.length_nil]
 refine Evt.chk (leB_mk (by omega)) (Evt.chk (leB_mk (by omega)) (Evt.chk (leB_mk (by omega)) (Evt.bind (impl_joined_ev r.fKeys [44] (by have := hr.n3; omega) (fun x hx => by have := hr.key x hx; omega) (by omega)) ?_)))
 simp only [mkB_append, mkB_size, List.length_append, List.length_cons, List.length_nil]
 refine Evt.chk (leB_mk (by omega)) ?_
 unfold ruleL
 cases ha : r.fAfter != 0
 ·refine Evt.f rfl (Evt.ret ?_)
  simp [List.append_assoc]
 ·refine Evt.t rfl (Evt.chk (leB_mk (by omega)) (Evt.chk (leB_mk (by omega)) (Evt.bind (impl_dec_ev r.fAfter hr.after.1 (by have := hr.after.2; omega)) ?_)))
  simp only [mkB_append, mkB_size, List.length_append, List.length_cons, List.length_nil]
  refine Evt.chk (leB_mk (by omega)) (Evt.chk (leB_mk (by omega)) (Evt.ret ?_))
  simp [List.append_assoc]
theorem txText_l0 (t : Tx) (ht : TxOK t) : ∀ (d i : Nat) (acc : List ByteArray), i + d = t.fIns.length → acc.length ≤ i → Evt (fun k => impl_txText.l0 t k acc (i : Int)) (acc ++ ((t.fIns.drop i).map refL).map mkB)
 | 0, i, acc, hi, ha => by
  rw [List.drop_of_length_le (by omega)]
  refine Evt.s ?_
  simp only [impl_txText.l0_s]
  exact Evt.f (ge_lt (by omega)) (Evt.ret (by simp))
 | d + 1, i, acc, hi, ha => by
  have hlt : i < t.fIns.length := by omega
  have h4 := ht.ins4
  have hx := ht.ins _ (List.getElem_mem hlt)
  have hg : gt t.fIns (i : Int) = t.fIns[i] := gt_eq (by simpa using hlt)
  have hd1 := dg_l2 (n := t.fIns[i].fTx) (by omega)
  have hd2 := dg_l1 (n := t.fIns[i].fAt) (by omega)
  have c58 : (⟨#[58]⟩ : ByteArray) = mkB [58] := rfl
  refine Evt.s ?_
  simp only [impl_txText.l0_s, hg, c58]
  refine Evt.t (int_lt hlt) (Evt.chk (idx_ok hlt) (Evt.bind (impl_dec_ev t.fIns[i].fTx (by omega) (by omega)) ?_))
  simp only [mkB_append, mkB_size, List.length_append, List.length_cons, List.length_nil]
  refine Evt.chk (leB_mk (by omega)) (Evt.bind (impl_dec_ev t.fIns[i].fAt (by omega) (by omega)) ?_)
  simp only [mkB_append, mkB_size, List.length_append, List.length_cons, List.length_nil]
  refine Evt.chk (leB_mk (by omega)) (Evt.chk (leB_mk2 (by omega)) ?_)
  rw [w64 hlt (by omega)]
  refine (txText_l0 t ht d (i + 1) _ (by omega) (by simp; omega)).to ?_
  have ed : t.fIns.drop i = t.fIns[i] :: t.fIns.drop (i + 1) := List.drop_eq_getElem_cons hlt
  rw [ed, List.map_cons, List.map_cons]
  unfold refL
  simp
theorem txText_l1 (t : Tx) (ht : TxOK t) : ∀ (d i : Nat) (acc : List ByteArray), i + d = t.fOuts.length → acc.length ≤ i + 3 → Evt (fun k => impl_txText.l1 t k acc (i : Int)) (acc ++ ((t.fOuts.drop i).map outL).map mkB)
 | 0, i, acc, hi, ha => by
  rw [List.drop_of_length_le (by omega)]
  refine Evt.s ?_
  simp only [impl_txText.l1_s]
  exact Evt.f (ge_lt (by omega)) (Evt.ret (by simp))
 | d + 1, i, acc, hi, ha => by
  have hlt : i < t.fOuts.length := by omega
  have h4 := ht.outs4
  have hx := ht.outs _ (List.getElem_mem hlt)
  have hg : gt t.fOuts (i : Int) = t.fOuts[i] := gt_eq (by simpa using hlt)
  have hr := rule_ok t.fOuts[i].fRule (by rw [hx.2]; rfl)
  have hd1 := dg_l7 (n := t.fOuts[i].fValue) (by omega)
  have hrl2 := ruleL_len t.fOuts[i].fRule 95 hr
  have c61 : (⟨#[61]⟩ : ByteArray) = mkB [61] := rfl
  have c95 : (⟨#[95]⟩ : ByteArray) = mkB [95] := rfl
  refine Evt.s ?_
  simp only [impl_txText.l1_s, hg, c61, c95]
  refine Evt.t (int_lt hlt) (Evt.chk (idx_ok hlt) (Evt.bind (impl_dec_ev t.fOuts[i].fValue (by omega) (by omega)) ?_))
  simp only [mkB_append, mkB_size, List.length_append, List.length_cons, List.length_nil]
  refine Evt.chk (leB_mk (by omega)) (Evt.bind (impl_ruleText_ev t.fOuts[i].fRule [95] (by simp) hr) ?_)
  simp only [mkB_append, mkB_size, List.length_append, List.length_cons, List.length_nil]
  refine Evt.chk (leB_mk (by omega)) (Evt.chk (leB_mk2 (by omega)) ?_)
  rw [w64 hlt (by omega)]
  refine (txText_l1 t ht d (i + 1) _ (by omega) (by simp; omega)).to ?_
  have ed : t.fOuts.drop i = t.fOuts[i] :: t.fOuts.drop (i + 1) := List.drop_eq_getElem_cons hlt
  rw [ed, List.map_cons, List.map_cons]
  unfold outL
  simp
def txText_v (t : Tx) : ByteArray × Int := bif decide (300 < ((txL t).length : Int)) then ((⟨#[]⟩ : ByteArray), 2) else (mkB (txL t), 0)
theorem impl_txText_ev (t : Tx) (ht : TxOK t) : Evt (fun k => impl_txText.f k t) (txText_v t) := by
 have hk := ht.kind
 have c43 : (⟨#[43]⟩ : ByteArray) = mkB [43] := rfl
 have c32 : (⟨#[32]⟩ : ByteArray) = mkB [32] := rfl
 have hins4 := ht.ins4
 have houts4 := ht.outs4
 have hj := ins_len ht
 have htl := txL_len ht
 obtain ⟨hw1, hw2⟩ := txWs_len ht
 have hg : gt ([(⟨#[112, 97, 121]⟩ : ByteArray), (⟨#[106, 111, 105, 110]⟩ : ByteArray), (⟨#[108, 101, 97, 118, 101]⟩ : ByteArray)] : List ByteArray) t.fKind = mkB (kindW t.fKind) := by
  have h3 : t.fKind = 0 ∨ t.fKind = 1 ∨ t.fKind = 2 := by omega
  rcases h3 with h | h | h <;> rw [h] <;> rfl
 have hik : idxOk t.fKind ([(⟨#[112, 97, 121]⟩ : ByteArray), (⟨#[106, 111, 105, 110]⟩ : ByteArray), (⟨#[108, 101, 97, 118, 101]⟩ : ByteArray)] : List ByteArray).length = true := by unfold idxOk; simp; omega
 have e0 := txText_l0 t ht t.fIns.length 0 [] (by omega) (by simp)
 rw [List.nil_append, List.drop_zero] at e0
 have hh : Evt (fun k => (bif (t.fKind != 0) then ((impl_dec.f k t.fMember).bind fun t3099 => (Zk.chk (leB ((([mkB (kindW t.fKind)] : List ByteArray).length + ([t3099] : List ByteArray).length) * 16) 140737488355328) (some (([mkB (kindW t.fKind)] : List ByteArray) ++ ([t3099] : List ByteArray))))) else some ([mkB (kindW t.fKind)] : List ByteArray))) ((txHead t).map mkB) := by
  unfold txHead
  cases hz : t.fKind != 0
  ·exact Evt.f rfl (Evt.self _)
  ·have hm := ht.mem (by simpa using hz)
   exact Evt.t rfl (Evt.bind (impl_dec_ev t.fMember (by omega) (by omega)) (Evt.chk rfl (Evt.self _)))
 have hhl : (txHead t).length ≤ 2 := by unfold txHead; cases t.fKind != 0 <;> simp
 have e1 := txText_l1 t ht t.fOuts.length 0 ((txHead t).map mkB ++ [mkB (Lib.join (t.fIns.map refL) [43])]) (by omega) (by simp; omega)
 have ew : (txHead t).map mkB ++ [mkB (Lib.join (t.fIns.map refL) [43])] ++ ((t.fOuts.drop 0).map outL).map mkB = (txWs t).map mkB := by unfold txWs; simp
 rw [ew] at e1
 unfold impl_txText.f
 refine Evt.bind (Evt.self _) (Evt.chk hik ?_)
 simp only [hg, c43, c32]
 refine Evt.bind hh (Evt.bind e0 (Evt.bind (strings_Join_ev (t.fIns.map refL) [43] (by rw [List.length_map]; omega) (by omega)) (Evt.chk (leB_mk2 (by simp; omega)) (Evt.bind e1 (Evt.bind (strings_Join_ev (txWs t) [32] (by omega) (by show (txL t).length ≤ _; omega)) ?_)))))
 show Evt (fun k => bif (decide (300 < ((mkB (txL t)).size : Int))) then some ((⟨#[]⟩ : ByteArray), 2) else some (mkB (txL t), 0)) _
 rw [mkB_size]
 unfold txText_v
 exact Evt.if_ (Evt.self _) (Evt.self _)
def impl_Ledger_idOf_v (x0 : Ledger) (x1 : ByteArray) : Int := (wrap64 ((slices_Index_string_v x0.fTexts x1) + 1))
theorem impl_Ledger_idOf_ev (x0 : Ledger) (x1 : ByteArray) (h_x0 : smLedger x0) : Evt (fun k => impl_Ledger_idOf.f k x0 x1) (impl_Ledger_idOf_v x0 x1) :=
 (Evt.bind (slices_Index_string_ev x0.fTexts x1 (h_x0.1)) (Evt.self _))
def impl_IsRipe_v (x0 : Coin) (x1 : Int) : Bool := (((impl_isHeight_v x0.fHeight) && (bif (impl_isHeight_v x0.fHeight) then (impl_isHeight_v x1) else default)) && ((!x0.fMined) || (decide ((wrap64 (x0.fHeight + 2)) ≤ x1))))
theorem impl_IsRipe_ev (x0 : Coin) (x1 : Int) (h_x0 : smCoin x0) : Evt (fun k => impl_IsRipe.f k x0 x1) (impl_IsRipe_v x0 x1) :=
 (Evt.bind (impl_isHeight_ev x0.fHeight) (Evt.bind (Evt.ifh (fun _ => (impl_isHeight_ev x1)) (fun _ => Evt.self _)) (Evt.self _)))
def impl_Ledger_hasSign_v (x0 : Ledger) (x1 : Int) (x2 : Int) : Bool := (slices_Contains_impl_Sign_v x0.fSigns (⟨x1, x2⟩ : Sign))
theorem impl_Ledger_hasSign_ev (x0 : Ledger) (x1 : Int) (x2 : Int) (h_x0 : smLedger x0) : Evt (fun k => impl_Ledger_hasSign.f k x0 x1 x2) (impl_Ledger_hasSign_v x0 x1 x2) :=
 (Evt.bind (slices_Contains_impl_Sign_ev x0.fSigns (⟨x1, x2⟩ : Sign) (h_x0.2)) (Evt.self _))
def impl_Ledger_ruleMet_v (x0 : Ledger) (x1 : Rule) (x2 : Int) (x3 : Int) : Int := (bif (decide (x3 < x1.fAfter)) then 9 else (bif (decide (((List.range' 0 (x1.fKeys.length - 0)).foldl (fun ac1 (i0 : Nat) => (bif (impl_Ledger_hasSign_v x0 (gt x1.fKeys (i0 : Int)) x2) then ((wrap64 (ac1 + 1))) else (ac1))) 0) < x1.fNeed)) then 6 else 0))
theorem impl_Ledger_ruleMet_ev (x0 : Ledger) (x1 : Rule) (x2 : Int) (x3 : Int) (h_x0 : smLedger x0) (h_x1 : smRule x1) : Evt (fun k => impl_Ledger_ruleMet.f k x0 x1 x2 x3) (impl_Ledger_ruleMet_v x0 x1 x2 x3) :=
 (Evt.ifh (fun hc3 => (Evt.self _)) (fun hc3 => (Evt.bind (Evt.gather (L := (fun k ac i => impl_Ledger_ruleMet.l0 x0 x1 x2 k ac i)) 0 x1.fKeys.length (by have := h_x1.1; first | (have := this.1; omega) | omega) (fun ac1 (i0 : Nat) => (bif (impl_Ledger_hasSign_v x0 (gt x1.fKeys (i0 : Int)) x2) then ((wrap64 (ac1 + 1))) else (ac1))) (fun i0 hs2 hi2 ac1 o hg => by
 have hbn : x1.fKeys.length ≤ 9223372036854775807 := (by have := h_x1.1; first | (have := this.1; omega) | omega)
 simp only [impl_Ledger_ruleMet.l0_s]
 exact Evt.t (int_lt hi2) (Evt.chk (by first | (simp only [leB, decide_eq_true_eq, List.length_append, List.length_cons, List.length_nil]; omega) | exact idx_ok (by omega) | exact idx_ok (by have hq := len_eq (by assumption); omega) | exact idx_found (by simp_all) | exact cut_ok (by omega) | exact or_ok (idx_ok (by omega)) | (refine or1 (fun hz => pre_ok (by simp at hz; omega) (by omega) (by omega))) | exact pre_ok (by omega) (by omega) (by omega) | (simp_all [idxOk, cutOk, leB]; done) | (simp_all [idxOk, cutOk, leB]; omega) | (simp [idxOk, cutOk, leB] at *; omega) | (have hf0 := h_x0.1.1; have hf1 := h_x0.2.1; have hf2 := h_x1.1.1; simp only [leB, decide_eq_true_eq, List.length_append, List.length_cons, List.length_nil]; omega)) (Evt.bind (impl_Ledger_hasSign_ev x0 (gt x1.fKeys (i0 : Int)) x2 (h_x0)) (Evt.cases (fun hc1 => (by rw [hc1] at hg; exact hg)) (fun hc1 => (by rw [hc1] at hg; exact hg)))))) (fun j ac hj => by
 simp only [impl_Ledger_ruleMet.l0_s]
 exact Evt.f (ge_lt hj) (Evt.self _)) 0) (Evt.ifh (fun hc2 => (Evt.self _)) (fun hc2 => (Evt.self _))))))
def impl_sumOf_v (x0 : List Coin) : Int := ((List.range' 0 (x0.length - 0)).foldl (fun ac1 (i0 : Nat) => ((wrap64 (ac1 + ((gt x0 (i0 : Int)).fOut.fValue))))) 0)
theorem impl_sumOf_ev (x0 : List Coin) (h_x0 : (Lm smCoin) x0) : Evt (fun k => impl_sumOf.f k x0) (impl_sumOf_v x0) :=
 (Evt.bind (Evt.gather (L := (fun k ac i => impl_sumOf.l0 x0 k ac i)) 0 x0.length (by have := h_x0; first | (have := this.1; omega) | omega) (fun ac1 (i0 : Nat) => ((wrap64 (ac1 + ((gt x0 (i0 : Int)).fOut.fValue))))) (fun i0 hs1 hi1 ac1 o hg => by
 have hbn : x0.length ≤ 9223372036854775807 := (by have := h_x0; first | (have := this.1; omega) | omega)
 simp only [impl_sumOf.l0_s]
 exact Evt.t (int_lt hi1) (Evt.chk (by first | (simp only [leB, decide_eq_true_eq, List.length_append, List.length_cons, List.length_nil]; omega) | exact idx_ok (by omega) | exact idx_ok (by have hq := len_eq (by assumption); omega) | exact idx_found (by simp_all) | exact cut_ok (by omega) | exact or_ok (idx_ok (by omega)) | (refine or1 (fun hz => pre_ok (by simp at hz; omega) (by omega) (by omega))) | exact pre_ok (by omega) (by omega) (by omega) | (simp_all [idxOk, cutOk, leB]; done) | (simp_all [idxOk, cutOk, leB]; omega) | (simp [idxOk, cutOk, leB] at *; omega) | (have hf0 := h_x0.1; simp only [leB, decide_eq_true_eq, List.length_append, List.length_cons, List.length_nil]; omega)) hg)) (fun j ac hj => by
 simp only [impl_sumOf.l0_s]
 exact Evt.f (ge_lt hj) (Evt.self _)) 0) (Evt.self _))
def impl_outSum_v (x0 : Tx) : Int := ((List.range' 0 (x0.fOuts.length - 0)).foldl (fun ac1 (i0 : Nat) => ((wrap64 (ac1 + ((gt x0.fOuts (i0 : Int)).fValue))))) 0)
theorem impl_outSum_ev (x0 : Tx) (h_x0 : smTx x0) : Evt (fun k => impl_outSum.f k x0) (impl_outSum_v x0) :=
 (Evt.bind (Evt.gather (L := (fun k ac i => impl_outSum.l0 x0 k ac i)) 0 x0.fOuts.length (by have := h_x0.2.2.2; first | (have := this.1; omega) | omega) (fun ac1 (i0 : Nat) => ((wrap64 (ac1 + ((gt x0.fOuts (i0 : Int)).fValue))))) (fun i0 hs1 hi1 ac1 o hg => by
 have hbn : x0.fOuts.length ≤ 9223372036854775807 := (by have := h_x0.2.2.2; first | (have := this.1; omega) | omega)
 simp only [impl_outSum.l0_s]
 exact Evt.t (int_lt hi1) (Evt.chk (by first | (simp only [leB, decide_eq_true_eq, List.length_append, List.length_cons, List.length_nil]; omega) | exact idx_ok (by omega) | exact idx_ok (by have hq := len_eq (by assumption); omega) | exact idx_found (by simp_all) | exact cut_ok (by omega) | exact or_ok (idx_ok (by omega)) | (refine or1 (fun hz => pre_ok (by simp at hz; omega) (by omega) (by omega))) | exact pre_ok (by omega) (by omega) (by omega) | (simp_all [idxOk, cutOk, leB]; done) | (simp_all [idxOk, cutOk, leB]; omega) | (simp [idxOk, cutOk, leB] at *; omega) | (have hf0 := h_x0.2.2.1.1; have hf1 := h_x0.2.2.2.1; simp only [leB, decide_eq_true_eq, List.length_append, List.length_cons, List.length_nil]; omega)) hg)) (fun j ac hj => by
 simp only [impl_outSum.l0_s]
 exact Evt.f (ge_lt hj) (Evt.self _)) 0) (Evt.self _))
theorem checkTx_loop (x0 : Ledger) (x3 id : Int) (T : (List Coin) × Int) (hT : Lm smCoin T.1) (h0 : smLedger x0) : ∀ (d j : Nat), j + d = T.1.length → Evt (fun k => impl_Ledger_checkTx.l0 x0 x3 id T k (j : Int)) (ckRes (ckL (fun x => impl_IsRipe_v x x3) (fun x => impl_Ledger_ruleMet_v x0 x.fOut.fRule id x3) (T.1.drop j)))
 | 0, j, h => by
  refine Evt.s ?_
  simp only [impl_Ledger_checkTx.l0_s]
  rw [List.drop_of_length_le (by omega)]
  exact Evt.f (decide_eq_false (by omega)) (Evt.self _)
 | d + 1, j, h => by
  have hl := hT.1
  have hj : j < T.1.length := by omega
  have e0 : T.1.drop j = gt T.1 (j : Int) :: T.1.drop (j + 1) := by rw [gt_eq (by simpa using hj)]; exact List.drop_eq_getElem_cons hj
  have ew : wrap64 ((j : Int) + 1) = ((j + 1 : Nat) : Int) := by rw [wrap64_in _ (by omega)]; omega
  have hm := hT.2 _ (gt_mem hj)
  refine Evt.s ?_
  simp only [impl_Ledger_checkTx.l0_s, ew]
  rw [e0]
  unfold ckL
  refine Evt.t (int_lt hj) (Evt.chk (idx_ok hj) (Evt.bind (impl_IsRipe_ev (gt T.1 (j : Int)) x3 hm) ?_))
  cases hr : impl_IsRipe_v (gt T.1 (j : Int)) x3
  ·exact Evt.t rfl (Evt.self _)
  ·refine Evt.f rfl (Evt.bind (impl_Ledger_ruleMet_ev x0 (gt T.1 (j : Int)).fOut.fRule id x3 h0 hm.2.1.2) ?_)
   cases hq : impl_Ledger_ruleMet_v x0 (gt T.1 (j : Int)).fOut.fRule id x3 != 0
   ·exact Evt.f rfl (checkTx_loop x0 x3 id T hT h0 d (j + 1) (by omega))
   ·exact Evt.t rfl (Evt.self _)
def impl_Ledger_checkTx_v (x0 : Ledger) (x1 : List Coin) (x2 : Tx) (x3 : Int) : Int × Int :=
 bif (txText_v x2).2 != 0 then (0, (txText_v x2).2) else bif impl_Ledger_idOf_v x0 (txText_v x2).1 == 0 then (0, 4) else bif (impl_spentBy_v x1 x2).2 != 0 then (0, (impl_spentBy_v x1 x2).2) else
  ckFin (ckL (fun x => impl_IsRipe_v x x3) (fun x => impl_Ledger_ruleMet_v x0 x.fOut.fRule (impl_Ledger_idOf_v x0 (txText_v x2).1) x3) (impl_spentBy_v x1 x2).1) (feeRes (x2.fKind == 2) (bif (x2.fKind == 2) then impl_Ledger_hasSign_v x0 x2.fMember (impl_Ledger_idOf_v x0 (txText_v x2).1) else default) (wrap64 (impl_sumOf_v (impl_spentBy_v x1 x2).1 - impl_outSum_v x2)))
theorem impl_Ledger_checkTx_ev (x0 : Ledger) (x1 : List Coin) (x2 : Tx) (x3 : Int) (h_x0 : smLedger x0) (h_x1 : Lm smCoin x1) (h_x2 : smTx x2) (hr : Rise x1) (ht : spec_l3Fault_v x2 = 0) : Evt (fun k => impl_Ledger_checkTx.f k x0 x1 x2 x3) (impl_Ledger_checkTx_v x0 x1 x2 x3) := by
 refine Evt.bind (impl_txText_ev x2 (tx_ok x2 (by rw [ht]; rfl))) ?_
 unfold impl_Ledger_checkTx_v
 cases (txText_v x2).2 != 0
 ·refine Evt.f rfl (Evt.bind (impl_Ledger_idOf_ev x0 (txText_v x2).1 h_x0) ?_)
  generalize impl_Ledger_idOf_v x0 (txText_v x2).1 = id
  simp only [cond_false]
  cases id == 0
  ·refine Evt.f rfl (Evt.bind (impl_spentBy_ev x1 x2 h_x1 h_x2 hr ht) ?_)
   have hT : Lm smCoin (impl_spentBy_v x1 x2).1 := by
    unfold impl_spentBy_v
    cases x2.fIns.all (fun r => (impl_findCoin_v x1 r).2)
    ·exact ⟨by simp, fun x hx => by cases hx⟩
    ·exact Lm_sub h_x1 List.filter_sublist
   cases (impl_spentBy_v x1 x2).2 != 0
   ·have e := checkTx_loop x0 x3 id (impl_spentBy_v x1 x2) hT h_x0 (impl_spentBy_v x1 x2).1.length 0 (by omega)
    rw [List.drop_zero] at e
    refine Evt.f rfl (Evt.bind e ?_)
    simp only [cond_false]
    cases ckL (fun x => impl_IsRipe_v x x3) (fun x => impl_Ledger_ruleMet_v x0 x.fOut.fRule id x3) (impl_spentBy_v x1 x2).1 with
    | some r => exact Evt.self _
    | none =>
     show Evt (fun k => (impl_sumOf.f k (impl_spentBy_v x1 x2).1).bind _) (feeRes _ _ _)
     refine Evt.bind (impl_sumOf_ev _ hT) (Evt.bind (impl_outSum_ev x2 h_x2) (Evt.bind (Evt.ifh (fun _ => impl_Ledger_hasSign_ev x0 x2.fMember id h_x0) (fun _ => Evt.self _)) ?_))
     unfold feeRes
     cases (x2.fKind == 2) && (!(bif (x2.fKind == 2) then impl_Ledger_hasSign_v x0 x2.fMember id else default))
     ·exact Evt.f rfl (Evt.if_ (Evt.self _) (Evt.self _))
     ·exact Evt.t rfl (Evt.self _)
   ·exact Evt.t rfl (Evt.self _)
  ·exact Evt.t rfl (Evt.self _)
 ·exact Evt.t rfl (Evt.self _)
def ck3 (a b c : Int) : IntResult ⊕ Unit := bif a != 0 then .inl ⟨a, 0⟩ else bif b != 0 then .inl ⟨b, 0⟩ else bif c != 0 then .inl ⟨c, 0⟩ else .inr ()
theorem ck3_ev (a b c : Int) : Evt (fun k => impl_CheckTx.l0 a b c k 0) (ck3 a b c) := by
 have w0 : wrap64 ((0 : Int) + 1) = 1 := by rw [wrap64_in _ (by omega)]; rfl
 have w1 : wrap64 ((1 : Int) + 1) = 2 := by rw [wrap64_in _ (by omega)]; rfl
 have w2 : wrap64 ((2 : Int) + 1) = 3 := by rw [wrap64_in _ (by omega)]; rfl
 have g0 : gt [a, b, c] (0 : Int) = a := rfl
 have g1 : gt [a, b, c] (1 : Int) = b := rfl
 have g2 : gt [a, b, c] (2 : Int) = c := rfl
 unfold ck3
 refine Evt.s ?_
 simp only [impl_CheckTx.l0_s, g0, w0]
 refine Evt.t rfl (Evt.chk rfl ?_)
 cases a != 0
 ·refine Evt.f rfl (Evt.s ?_)
  simp only [impl_CheckTx.l0_s, g1, w1]
  refine Evt.t rfl (Evt.chk rfl ?_)
  cases b != 0
  ·refine Evt.f rfl (Evt.s ?_)
   simp only [impl_CheckTx.l0_s, g2, w2]
   refine Evt.t rfl (Evt.chk rfl ?_)
   cases c != 0
   ·refine Evt.f rfl (Evt.s ?_)
    simp only [impl_CheckTx.l0_s]
    exact Evt.f rfl (Evt.self _)
   ·exact Evt.t rfl (Evt.self _)
  ·exact Evt.t rfl (Evt.self _)
 ·exact Evt.t rfl (Evt.self _)
def impl_CheckTx_v (x0 : Ledger) (x1 : List Coin) (x2 : Tx) (x3 : Int) : IntResult := match ck3 (impl_LedgerFault_v x0) (impl_CoinsFault_v x1) (impl_TxFault_v x2) with
 | .inl r => r
 | .inr _ => bif !(impl_isHeight_v x3) then ⟨3, 0⟩ else ⟨(impl_Ledger_checkTx_v x0 x1 x2 x3).2, (impl_Ledger_checkTx_v x0 x1 x2 x3).1⟩
theorem ck3_none {a b c : Int} {u : Unit} (h : ck3 a b c = .inr u) : a = 0 ∧ b = 0 ∧ c = 0 := by
 unfold ck3 at h
 cases ha : a != 0 <;> rw [ha] at h
 ·cases hb : b != 0 <;> rw [hb] at h
  ·cases hc : c != 0 <;> rw [hc] at h
   ·exact ⟨by simpa using ha, by simpa using hb, by simpa using hc⟩
   ·cases h
  ·cases h
 ·cases h
theorem impl_CheckTx_ev (x0 : Ledger) (x1 : List Coin) (x2 : Tx) (x3 : Int) (h_x0 : smLedger x0) (h_x1 : Lm smCoin x1) (h_x2 : smTx x2) : Evt (fun k => impl_CheckTx.f k x0 x1 x2 x3) (impl_CheckTx_v x0 x1 x2 x3) := by
 refine Evt.bind (a := ck3 (impl_LedgerFault_v x0) (impl_CoinsFault_v x1) (impl_TxFault_v x2)) (Evt.bind (impl_LedgerFault_ev x0 h_x0) (Evt.bind (impl_CoinsFault_ev x1 h_x1) (Evt.bind (impl_TxFault_ev x2 h_x2) (ck3_ev _ _ _)))) ?_
 unfold impl_CheckTx_v
 cases hc : ck3 (impl_LedgerFault_v x0) (impl_CoinsFault_v x1) (impl_TxFault_v x2) with
 | inl r => exact Evt.self _
 | inr u =>
  obtain ⟨_, h2, h3⟩ := ck3_none hc
  rw [coinsFault_same] at h2
  rw [txFault_same] at h3
  refine (?_ : Evt (fun n => (impl_isHeight.f n x3).bind fun t => bif !t then some (⟨3, 0⟩ : IntResult) else (impl_Ledger_checkTx.f n x0 x1 x2 x3).bind fun t => some (⟨t.2, t.1⟩ : IntResult)) (bif !(impl_isHeight_v x3) then (⟨3, 0⟩ : IntResult) else ⟨(impl_Ledger_checkTx_v x0 x1 x2 x3).2, (impl_Ledger_checkTx_v x0 x1 x2 x3).1⟩))
  refine Evt.bind (impl_isHeight_ev x3) (Evt.if_ (Evt.self _) (Evt.bind (impl_Ledger_checkTx_ev x0 x1 x2 x3 h_x0 h_x1 h_x2 (rise_of h_x1 h2) h3) (Evt.self _)))
theorem eqIntResult_ev (x : IntResult) (h : smIntResult x) : Evt (fun k => laws_eqIntResult.f k x x) true := Evt.f (by simp [sEq_refl]) (Evt.f (by simp [sEq_refl]) (Evt.self _))
theorem eqStringS_ev (x : List ByteArray) (h : (Lm tr) x) : Evt (fun k => laws_eqStringS.f k x x) true := by
 have hn := h.1
 refine (Evt.eqr (L := fun k i => laws_eqStringS.l0 x x k i) (fun _ _ => true) x x (by omega) (fun i h1 h2 o ht hf => ?_) ?_).to (eqRows_refl (fun _ => rfl) x)
 ·refine Evt.s ?_
  simp only [laws_eqStringS.l0_s]
  exact Evt.t (int_lt h1) (Evt.chk (idx_ok h1) (Evt.chk (idx_ok h2) (Evt.f (by simp [sEq_refl]) (ht rfl))))
 ·refine Evt.s ?_
  simp only [laws_eqStringS.l0_s]
  exact Evt.f int_nlt (Evt.self _)
theorem eqSign_ev (x : Sign) (h : smSign x) : Evt (fun k => laws_eqSign.f k x x) true := Evt.f (by simp [sEq_refl]) (Evt.f (by simp [sEq_refl]) (Evt.self _))
theorem eqSignS_ev (x : List Sign) (h : (Lm smSign) x) : Evt (fun k => laws_eqSignS.f k x x) true := by
 have hn := h.1
 refine (Evt.eqr (L := fun k i => laws_eqSignS.l0 x x k i) (fun _ _ => true) x x (by omega) (fun i h1 h2 o ht hf => ?_) ?_).to (eqRows_refl (fun _ => rfl) x)
 ·refine Evt.s ?_
  simp only [laws_eqSignS.l0_s]
  exact Evt.t (int_lt h1) (Evt.chk (idx_ok h1) (Evt.chk (idx_ok h2) (Evt.bind (eqSign_ev _ (h.2 _ (gt_mem h1))) (Evt.f rfl (ht rfl)))))
 ·refine Evt.s ?_
  simp only [laws_eqSignS.l0_s]
  exact Evt.f int_nlt (Evt.self _)
theorem eqLedger_ev (x : Ledger) (h : smLedger x) : Evt (fun k => laws_eqLedger.f k x x) true := Evt.bind (eqStringS_ev _ h.1) (Evt.f rfl (Evt.bind (eqSignS_ev _ h.2) (Evt.f rfl (Evt.self _))))
theorem eqRef_ev (x : Ref) (h : smRef x) : Evt (fun k => laws_eqRef.f k x x) true := Evt.f (by simp [sEq_refl]) (Evt.f (by simp [sEq_refl]) (Evt.self _))
theorem eqInt64S_ev (x : List Int) (h : (Lm tr) x) : Evt (fun k => laws_eqInt64S.f k x x) true := by
 have hn := h.1
 refine (Evt.eqr (L := fun k i => laws_eqInt64S.l0 x x k i) (fun _ _ => true) x x (by omega) (fun i h1 h2 o ht hf => ?_) ?_).to (eqRows_refl (fun _ => rfl) x)
 ·refine Evt.s ?_
  simp only [laws_eqInt64S.l0_s]
  exact Evt.t (int_lt h1) (Evt.chk (idx_ok h1) (Evt.chk (idx_ok h2) (Evt.f (by simp [sEq_refl]) (ht rfl))))
 ·refine Evt.s ?_
  simp only [laws_eqInt64S.l0_s]
  exact Evt.f int_nlt (Evt.self _)
theorem eqRule_ev (x : Rule) (h : smRule x) : Evt (fun k => laws_eqRule.f k x x) true := Evt.bind (eqInt64S_ev _ h.1) (Evt.f rfl (Evt.f (by simp [sEq_refl]) (Evt.f (by simp [sEq_refl]) (Evt.self _))))
theorem eqOut_ev (x : Out) (h : smOut x) : Evt (fun k => laws_eqOut.f k x x) true := Evt.f (by simp [sEq_refl]) (Evt.bind (eqRule_ev _ h.2) (Evt.f rfl (Evt.self _)))
theorem eqCoin_ev (x : Coin) (h : smCoin x) : Evt (fun k => laws_eqCoin.f k x x) true := Evt.bind (eqRef_ev _ h.1) (Evt.f rfl (Evt.bind (eqOut_ev _ h.2.1) (Evt.f rfl (Evt.f (by simp [sEq_refl]) (Evt.f (by simp [sEq_refl]) (Evt.self _))))))
theorem eqCoinS_ev (x : List Coin) (h : (Lm smCoin) x) : Evt (fun k => laws_eqCoinS.f k x x) true := by
 have hn := h.1
 refine (Evt.eqr (L := fun k i => laws_eqCoinS.l0 x x k i) (fun _ _ => true) x x (by omega) (fun i h1 h2 o ht hf => ?_) ?_).to (eqRows_refl (fun _ => rfl) x)
 ·refine Evt.s ?_
  simp only [laws_eqCoinS.l0_s]
  exact Evt.t (int_lt h1) (Evt.chk (idx_ok h1) (Evt.chk (idx_ok h2) (Evt.bind (eqCoin_ev _ (h.2 _ (gt_mem h1))) (Evt.f rfl (ht rfl)))))
 ·refine Evt.s ?_
  simp only [laws_eqCoinS.l0_s]
  exact Evt.f int_nlt (Evt.self _)
theorem eqRefS_ev (x : List Ref) (h : (Lm smRef) x) : Evt (fun k => laws_eqRefS.f k x x) true := by
 have hn := h.1
 refine (Evt.eqr (L := fun k i => laws_eqRefS.l0 x x k i) (fun _ _ => true) x x (by omega) (fun i h1 h2 o ht hf => ?_) ?_).to (eqRows_refl (fun _ => rfl) x)
 ·refine Evt.s ?_
  simp only [laws_eqRefS.l0_s]
  exact Evt.t (int_lt h1) (Evt.chk (idx_ok h1) (Evt.chk (idx_ok h2) (Evt.bind (eqRef_ev _ (h.2 _ (gt_mem h1))) (Evt.f rfl (ht rfl)))))
 ·refine Evt.s ?_
  simp only [laws_eqRefS.l0_s]
  exact Evt.f int_nlt (Evt.self _)
theorem eqOutS_ev (x : List Out) (h : (Lm smOut) x) : Evt (fun k => laws_eqOutS.f k x x) true := by
 have hn := h.1
 refine (Evt.eqr (L := fun k i => laws_eqOutS.l0 x x k i) (fun _ _ => true) x x (by omega) (fun i h1 h2 o ht hf => ?_) ?_).to (eqRows_refl (fun _ => rfl) x)
 ·refine Evt.s ?_
  simp only [laws_eqOutS.l0_s]
  exact Evt.t (int_lt h1) (Evt.chk (idx_ok h1) (Evt.chk (idx_ok h2) (Evt.bind (eqOut_ev _ (h.2 _ (gt_mem h1))) (Evt.f rfl (ht rfl)))))
 ·refine Evt.s ?_
  simp only [laws_eqOutS.l0_s]
  exact Evt.f int_nlt (Evt.self _)
theorem eqTx_ev (x : Tx) (h : smTx x) : Evt (fun k => laws_eqTx.f k x x) true := Evt.f (by simp [sEq_refl]) (Evt.f (by simp [sEq_refl]) (Evt.bind (eqRefS_ev _ h.2.2.1) (Evt.f rfl (Evt.bind (eqOutS_ev _ h.2.2.2) (Evt.f rfl (Evt.self _))))))
theorem contains_string (xs : List ByteArray) (x : ByteArray) (h : xs.length ≤ 1048576) : decide (0 < spec_l1At_v xs x) = slices_Contains_string_v xs x := by
 have e : (fun i : Nat => sEq x (gt xs (i : Int))) = fun i : Nat => sEq (gt xs (i : Int)) x := by funext i; exact sEq_comm _ _
 rw [slices_Contains_string_any, e]
 exact at_any (List.range' 0 (xs.length - 0)) (fun i : Nat => sEq (gt xs (i : Int)) x) fun i hi => by have := in_range hi; omega
theorem contains_sign (xs : List Sign) (x : Sign) : slices_Contains_impl_Sign_v xs x = spec_l1Signed_v xs x := by
 have e : (fun i : Nat => (x.fKey == (gt xs (i : Int)).fKey) && (x.fId == (gt xs (i : Int)).fId)) = fun i : Nat => ((gt xs (i : Int)).fKey == x.fKey) && ((gt xs (i : Int)).fId == x.fId) := by funext i; rw [BEq.comm (a := x.fKey), BEq.comm (a := x.fId)]
 rw [slices_Contains_impl_Sign_any, e]; simp only [spec_l1Signed_v, found_any, bifb]
theorem ledgerFault_same (x0 : Ledger) (h0 : smLedger x0) : impl_LedgerFault_v x0 = spec_l1Fault_v x0 := by
 have hT := h0.1.1
 have e1 : ∀ (n : Nat) (x : ByteArray), decide (0 < spec_l1At_v (x0.fTexts.take n) x) = slices_Contains_string_v (x0.fTexts.take n) x := fun n x => contains_string _ _ (by rw [List.length_take]; omega)
 simp only [impl_LedgerFault_v, spec_l1Fault_v, e1, contains_sign, rng1, impl_isText_v, impl_within_v, impl_isKey_v, spec_l1Key_v, spec_l1In_v]
theorem idx_at0 (f : Int → Int) (h0 : f (-1 + 1) = 0) (l : List Nat) (p : Nat → Bool) : f ((onO (l.findSome? fun i => bif p i then some (i : Int) else none) (fun r => r) (-1)) + 1) = onO (l.findSome? fun i => bif p i then some (f ((i : Int) + 1)) else none) (fun r => r) 0 := by
 induction l with
 | nil => exact h0
 | cons i l ih =>
  rw [List.findSome?_cons, List.findSome?_cons]
  cases p i
  ·exact ih
  ·rfl
theorem idOf_same (x0 : Ledger) (x1 : ByteArray) : impl_Ledger_idOf_v x0 x1 = spec_l1At_v x0.fTexts x1 := by
 have e : (fun i : Nat => sEq x1 (gt x0.fTexts (i : Int))) = fun i : Nat => sEq (gt x0.fTexts (i : Int)) x1 := by funext i; exact sEq_comm _ _
 have e2 := idx_at0 wrap64 (wrap64_in 0 (by omega)) (List.range' 0 (x0.fTexts.length - 0)) (fun i : Nat => sEq x1 (gt x0.fTexts (i : Int)))
 refine Eq.trans e2 ?_
 simp only [spec_l1At_v, sEq_comm x1]
theorem ruleMet_same (x0 : Ledger) (x1 : Rule) (x2 x3 : Int) : impl_Ledger_ruleMet_v x0 x1 x2 x3 = spec_l2Met_v x0 x1 x2 x3 := by
 simp only [impl_Ledger_ruleMet_v, spec_l2Met_v, impl_Ledger_hasSign_v, spec_l1Has_v, contains_sign]
 rfl
theorem coin_heights {x1 : List Coin} (hf : spec_l4Fault_v x1 = 0) : ∀ x ∈ x1, impl_isHeight_v x.fHeight = true := by
 intro x hx
 obtain ⟨i, hi, rfl⟩ := List.getElem_of_mem hx
 have h := hf
 unfold spec_l4Fault_v at h
 cases hc : decide (40 < (x1.length : Int))
 ·rw [hc] at h
  obtain ⟨h2, _⟩ := onO_zero h (fun i => three_ne _ _ _)
  have h3 := fs_all h2 i hi
  have e : gt x1 (i : Int) = x1[i] := by rw [gt_eq (by simpa using hi)]; simp
  rw [e] at h3
  have e2 : impl_isHeight_v x1[i].fHeight = spec_l2Height_v x1[i].fHeight := by simp only [impl_isHeight_v, impl_within_v, spec_l2Height_v, spec_l1In_v]
  rw [e2]
  cases hr : spec_l3Ref_v x1[i].fRef
  ·rw [hr] at h3; cases h3
  ·cases hq : spec_l2Height_v x1[i].fHeight
   ·rw [hr, hq] at h3; cases h3
   ·rfl
 ·rw [hc] at h; exact absurd (show (2 : Int) = 0 from h) (by decide)
theorem ck_zero {rp : Coin → Bool} {mt : Coin → Int} : ∀ {L : List Coin} {r : Int × Int}, ckL rp mt L = some r → r.1 = 0
 | [], r, h => by cases h
 | x :: L, r, h => by
  unfold ckL at h
  cases hr : rp x <;> rw [hr] at h
  ·have := Option.some.inj h
   rw [← this]
  ·cases hm : mt x != 0 <;> rw [hm] at h
   ·exact ck_zero (L := L) h
   ·have := Option.some.inj h
    rw [← this]
theorem fee_zero (a b : Bool) (n : Int) : (feeRes a b n).2 ≠ 0 → (feeRes a b n).1 = 0 := by
 unfold feeRes
 cases a && !b
 ·cases decide (n < 0)
  ·intro h; exact absurd rfl h
  ·intro _; rfl
 ·intro _; rfl
theorem res_shape (p : Int × Int) (h : p.2 ≠ 0 → p.1 = 0) : (⟨p.2, p.1⟩ : IntResult) = bif p.2 != 0 then ⟨p.2, 0⟩ else ⟨0, p.1⟩ := by
 cases hq : p.2 != 0
 ·have : p.2 = 0 := by simpa using hq
  rw [this]; rfl
 ·rw [h (by simpa using hq)]; rfl
theorem same_FnExactCheckTx (x0 : Ledger) (h0 : smLedger x0) (o0 : okLedger x0) (x1 : List Coin) (h1 : Lm smCoin x1) (o1 : Lok okCoin x1) (x2 : Tx) (h2 : smTx x2) (o2 : okTx x2) (x3 : Int) (o3 : iOk .i64 x3) : impl_CheckTx_v x0 x1 x2 x3 = spec_CheckTx_v x0 x1 x2 x3 := by
 unfold impl_CheckTx_v spec_CheckTx_v ck3
 rw [ledgerFault_same x0 h0, coinsFault_same, txFault_same]
 cases hl : spec_l1Fault_v x0 != 0
 ·cases hc : spec_l4Fault_v x1 != 0
  ·cases ht : spec_l3Fault_v x2 != 0
   ·have hf : spec_l4Fault_v x1 = 0 := by simpa using hc
    have hg : spec_l3Fault_v x2 = 0 := by simpa using ht
    have eh : impl_isHeight_v x3 = spec_l2Height_v x3 := by simp only [impl_isHeight_v, impl_within_v, spec_l2Height_v, spec_l1In_v]
    simp only [cond_false, eh]
    cases hh : spec_l2Height_v x3
    ·rfl
    ·simp only [Bool.not_true, cond_false]
     have et : spec_TxText_v x2 = ⟨(txText_v x2).2, (txText_v x2).1⟩ := by
      unfold spec_TxText_v
      rw [ht]
      simp only [cond_false]
      unfold txText_v spec_l3Text_v
      rw [mkB_size]
      cases decide (300 < ((txL x2).length : Int)) <;> rfl
     rw [et]
     unfold impl_Ledger_checkTx_v
     cases hq : (txText_v x2).2 != 0
     ·simp only [cond_false]
      rw [idOf_same]
      generalize spec_l1At_v x0.fTexts (txText_v x2).1 = id
      cases hi : id == 0
      ·simp only [cond_false]
       unfold spec_l5Check_v impl_spentBy_v
       rw [l5Spent_is]
       have hsl := spent_len (rise_of h1 hf) (tx_ins x2 hg).nodup
       simp only []
       rw [hsl]
       cases ha : x2.fIns.all (fun r => (impl_findCoin_v x1 r).2)
       ·rfl
       ·have hck : ckL (fun x => impl_IsRipe_v x x3) (fun x => impl_Ledger_ruleMet_v x0 x.fOut.fRule id x3) (spentOf x1 x2.fIns) = ckL (fun x => spec_l5Ripe_v x x3) (fun x => spec_l2Met_v x0 x.fOut.fRule id x3) (spentOf x1 x2.fIns) := ck_congr fun x hx => by
         refine ⟨?_, ruleMet_same _ _ _ _⟩
         have e1 := coin_heights hf x (spent_mem hx)
         have e2 : impl_isHeight_v x3 = true := by rw [eh]; exact hh
         simp only [impl_IsRipe_v, e1, e2, spec_l5Ripe_v, cond_true, Bool.and_true, Bool.true_and]
        have e3 : impl_sumOf_v (spentOf x1 x2.fIns) = spec_l4Sum_v (spentOf x1 x2.fIns) := rfl
        have e4 : impl_outSum_v x2 = spec_l3Sum_v x2 := rfl
        have e5 : impl_Ledger_hasSign_v x0 x2.fMember id = spec_l1Has_v x0 x2.fMember id := by simp only [impl_Ledger_hasSign_v, spec_l1Has_v, contains_sign]
        simp only [cond_true, Bool.not_true, cond_false, hck, e3, e4, e5]
        refine res_shape _ ?_
        cases ho : ckL (fun x => spec_l5Ripe_v x x3) (fun x => spec_l2Met_v x0 x.fOut.fRule id x3) (spentOf x1 x2.fIns) with
        | some r => exact fun _ => ck_zero ho
        | none => exact fee_zero _ _ _
      ·rfl
     ·rfl
   ·rfl
  ·rfl
 ·rfl
end Go.Proofs.YtpfaihnmonfkhaaGreatDoor.Zk
namespace Go.Proofs.YtpfaihnmonfkhaaGreatDoor.Pure
open Go Go.Proofs.YtpfaihnmonfkhaaGreatDoor.Zk
theorem FnExactCheckTx (x0 : Zk.Ledger) (x1 : List Zk.Coin) (x2 : Zk.Tx) (x3 : Int) (o_x0 : okLedger x0) (o_x1 : (Lok okCoin) x1) (o_x2 : okTx x2) (o_x3 : (iOk .i64) x3) : ∃ k, laws_FnExactCheckTx.f k x0 x1 x2 x3 = some true := by
 refine Evt.get ?_
 obtain ⟨t0, e0, l0, s0⟩ := szLedger_ev x0 o_x0 1048576 (by omega) (by omega)
 by_cases c0 : t0 < 0
 ·exact Evt.bind e0 (Evt.t (by simpa using c0) (Evt.self _))
 refine Evt.bind e0 (Evt.f (by simpa using c0) ?_)
 have m0 := s0 (by omega)
 obtain ⟨t1, e1, l1, s1⟩ := szCoinS_ev x1 o_x1 t0 (by omega) (by omega)
 by_cases c1 : t1 < 0
 ·exact Evt.bind e1 (Evt.t (by simpa using c1) (Evt.self _))
 refine Evt.bind e1 (Evt.f (by simpa using c1) ?_)
 have m1 := s1 (by omega)
 obtain ⟨t2, e2, l2, s2⟩ := szTx_ev x2 o_x2 t1 (by omega) (by omega)
 by_cases c2 : t2 < 0
 ·exact Evt.bind e2 (Evt.t (by simpa using c2) (Evt.self _))
 refine Evt.bind e2 (Evt.f (by simpa using c2) ?_)
 have m2 := s2 (by omega)
 refine Evt.bind (toLedger_ev x0 (m0)) ?_
 refine Evt.bind (toCoinS_ev x1 (m1)) ?_
 refine Evt.bind (toTx_ev x2 (m2)) ?_
 refine Evt.bind (spec_CheckTx_ev x0 x1 x2 x3 (m0) (m1) (m2)) ?_
 refine Evt.bind (toLedger_ev x0 (m0)) ?_
 refine Evt.bind (toCoinS_ev x1 (m1)) ?_
 refine Evt.bind (toTx_ev x2 (m2)) ?_
 refine Evt.bind ((impl_CheckTx_ev x0 x1 x2 x3 (m0) (m1) (m2)).to (same_FnExactCheckTx x0 (m0) o_x0 x1 (m1) o_x1 x2 (m2) o_x2 x3 o_x3)) ?_
 refine Evt.bind (eqIntResult_ev _ (by repeat' (first | trivial | constructor))) (Evt.f rfl ?_)
 refine Evt.bind (toLedger_ev x0 (m0)) ?_
 refine Evt.bind (eqLedger_ev _ (m0)) (Evt.f rfl ?_)
 refine Evt.bind (toCoinS_ev x1 (m1)) ?_
 refine Evt.bind (eqCoinS_ev _ (m1)) (Evt.f rfl ?_)
 refine Evt.bind (toTx_ev x2 (m2)) ?_
 refine Evt.bind (eqTx_ev _ (m2)) (Evt.f rfl ?_)
 exact Evt.self _
end Go.Proofs.YtpfaihnmonfkhaaGreatDoor.Pure
