/- The plain law of FnUndos: what the program's function and the reference's compute is the same. No condition. -/
import Derived.Test.YtecgbhfgkkpmhacGreatZkPure
import Derived.Test.YtecgbhfgkkpmhacGreatFnUndosZkOpn
import Derived.Test.YtecgbhfgkkpmhacGreatFnUndosZkF18
import Derived.Lib.ItoaNum
import Derived.Lib.Join
namespace Go.Proofs.YtecgbhfgkkpmhacGreat.Zk
open Go Go.RowKit Go.IntWalk
set_option linter.unusedVariables false
set_option linter.unusedSimpArgs false

abbrev tr {α : Type} (x : α) : Prop := True
def Lm {α : Type} (sm : α → Prop) (xs : List α) : Prop := xs.length ≤ 1048576 ∧ ∀ x ∈ xs, sm x
theorem gt_mem {α : Type} [Inhabited α] {xs : List α} {i : Nat} (h : i < xs.length) : gt xs (i : Int) ∈ xs := by
 rw [gt_eq (i := (i : Int)) (by simpa using h)]
 exact List.getElem_mem _
theorem Evt_t2 {β : Type} {f g nxt : Nat → Option (β ⊕ Unit)} {c : Bool} {v : Option β} (hc : c = true) (h : StE f nxt v) : StE (fun n => bif c then f n else g n) nxt v := by subst hc; exact h
theorem Lm_take {α : Type} {sm : α → Prop} {xs : List α} {n : Nat} (h : Lm sm xs) : Lm sm (xs.take n) := ⟨by have := h.1; rw [List.length_take]; omega, fun x hx => h.2 x (List.mem_of_mem_take hx)⟩
theorem Lm_drop {α : Type} {sm : α → Prop} {xs : List α} {n : Nat} (h : Lm sm xs) : Lm sm (xs.drop n) := ⟨by have := h.1; rw [List.length_drop]; omega, fun x hx => h.2 x (List.mem_of_mem_drop hx)⟩
theorem found_any {β γ : Type} (l : List Nat) (p : Nat → Bool) (a : β) (r : β → γ) (c : γ) : onO (l.findSome? fun i => bif p i then some a else none) r c = bif l.any p then r a else c := by
 induction l with
 | nil => rfl
 | cons i l ih =>
  rw [List.findSome?_cons, List.any_cons]
  cases p i
  ·simpa using ih
  ·rfl
theorem idx_any (l : List Nat) (p : Nat → Bool) : decide (0 ≤ onO (l.findSome? fun i => bif p i then some (i : Int) else none) (fun r => r) (-1)) = l.any p := by
 induction l with
 | nil => rfl
 | cons i l ih =>
  rw [List.findSome?_cons, List.any_cons]
  cases p i
  ·simpa using ih
  ·simp [onO]
theorem rng1 {a lo hi : Int} : (decide (a < lo) || decide (hi < a)) = !(decide (lo ≤ a) && decide (a ≤ hi)) := by
 by_cases h1 : a < lo
 ·have : ¬ lo ≤ a := by omega
  simp [h1, this]
 ·have h2 : lo ≤ a := by omega
  by_cases h3 : hi < a
  ·have : ¬ a ≤ hi := by omega
   simp [h1, h2, h3, this]
  ·have : a ≤ hi := by omega
   simp [h1, h2, h3, this]
theorem fs_congr {β : Type} {l : List Nat} {f g : Nat → Option β} (h : ∀ i ∈ l, f i = g i) : l.findSome? f = l.findSome? g := by
 induction l with
 | nil => rfl
 | cons i l ih => rw [List.findSome?_cons, List.findSome?_cons, h i (by simp), ih fun j hj => h j (by simp [hj])]
theorem in_range {i n : Nat} (h : i ∈ List.range' 0 (n - 0)) : i < n := by
 have := List.mem_range'_1.1 h
 omega
theorem bifb {b : Bool} : (bif b then true else false) = b := by cases b <;> rfl
theorem idx_found {n : Nat} {p : Nat → Bool} (h : 0 ≤ onO ((List.range' 0 (n - 0)).findSome? fun i => bif p i then some (i : Int) else none) (fun r => r) (-1)) : idxOk (onO ((List.range' 0 (n - 0)).findSome? fun i => bif p i then some (i : Int) else none) (fun r => r) (-1)) n = true := by
 have key : ∀ l : List Nat, (∀ i ∈ l, i < n) → 0 ≤ onO (l.findSome? fun i => bif p i then some (i : Int) else none) (fun r => r) (-1) → idxOk (onO (l.findSome? fun i => bif p i then some (i : Int) else none) (fun r => r) (-1)) n = true := by
  intro l
  induction l with
  | nil => intro _ h; exact absurd h (by show ¬ (0 : Int) ≤ -1; omega)
  | cons i l ih =>
   intro hl h
   rw [List.findSome?_cons] at h ⊢
   cases hp : p i
   ·rw [hp] at h; exact ih (fun j hj => hl j (List.mem_cons_of_mem _ hj)) h
   ·exact idx_ok (hl i (List.mem_cons_self ..))
 exact key _ (fun i hi => in_range hi) h
theorem cut_ok {i n : Nat} (h : i ≤ n) : cutOk (i : Int) n = true := by unfold cutOk; simp; omega
theorem len_eq {a b : Nat} (h : ((a : Int) != (b : Int)) = false) : a = b := by
 by_cases e : a = b
 ·exact e
 ·have : ((a : Int) != (b : Int)) = true := by simp; omega
  rw [this] at h; cases h

abbrev smRef (x : Ref) : Prop := tr x.fTx ∧ tr x.fAt
abbrev smRule (x : Rule) : Prop := (Lm tr) x.fKeys ∧ tr x.fNeed ∧ tr x.fAfter
abbrev smOut (x : Out) : Prop := tr x.fValue ∧ smRule x.fRule
abbrev smCoin (x : Coin) : Prop := smRef x.fRef ∧ smOut x.fOut ∧ tr x.fHeight ∧ tr x.fMined
abbrev smTx (x : Tx) : Prop := tr x.fKind ∧ tr x.fMember ∧ (Lm smRef) x.fIns ∧ (Lm smOut) x.fOuts
abbrev smSign (x : Sign) : Prop := tr x.fKey ∧ tr x.fId
abbrev smLedger (x : Ledger) : Prop := (Lm tr) x.fTexts ∧ (Lm smSign) x.fSigns
abbrev smLedgerResult (x : LedgerResult) : Prop := tr x.fCode ∧ tr x.fId ∧ smLedger x.fLedger
theorem len_bif {α : Type} {c : Bool} {a b : List α} {n : Nat} (h : a.length ≤ n) (k : b.length ≤ n) : (bif c then a else b).length ≤ n := by cases c; exact k; exact h
theorem Evt.gatherL {σ : Type} {L : Nat → List σ → Int → Option (List σ)} (n : Nat) (hn : n ≤ 1048576) (st : List σ → Nat → List σ)
  (len : ∀ i, i < n → ∀ a, a.length ≤ i → (st a i).length ≤ i + 1)
  (step : ∀ i, i < n → ∀ a, a.length ≤ i → ∀ o, Evt (fun k => L k (st a i) (wrap64 ((i : Int) + 1))) o → Evt (fun k => L (k + 1) a (i : Int)) o)
  (done : ∀ (i : Nat) a, n ≤ i → Evt (fun k => L (k + 1) a (i : Int)) a) : Evt (fun k => L k [] 0) ((List.range' 0 (n - 0)).foldl st []) := by
 have key : ∀ d i (a : List σ), (i + d = n ∨ n ≤ i ∧ d = 0) → a.length ≤ i → Evt (fun k => L k a (i : Int)) ((List.range' i d).foldl st a) := by
  intro d
  induction d with
  | zero => intro i a hi _; exact Evt.s (done i a (by omega))
  | succ d ih =>
   intro i a hi ha
   rw [List.range'_succ, List.foldl_cons]
   refine Evt.s (step i (by omega) a ha _ ?_)
   rw [w64 (by omega : i < n) (by omega)]
   exact ih (i + 1) (st a i) (by omega) (len i (by omega) a ha)
 exact key (n - 0) 0 [] (by omega) (by simp)
theorem cut_next {t : Int} {n : Nat} (h : idxOk t n = true) (hn : n ≤ 1048576) : cutOk (wrap64 (t + 1)) n = true := by
 have h1 := idx_lo h
 have h2 := idx_hi h
 rw [wrap64_in _ (by omega)]
 unfold cutOk; simp; omega
theorem cut_self {t : Int} {n : Nat} (h : idxOk t n = true) (hn : n ≤ 1048576) : cutOk t (wrap64 (t + 1)).toNat = true := by
 have h1 := idx_lo h
 have h2 := idx_hi h
 rw [wrap64_in _ (by omega)]
 unfold cutOk; simp; omega
theorem Lm_gath {α : Type} [Inhabited α] {sm : α → Prop} (x0 : List α) (h : Lm sm x0) (c : Nat → Bool) : Lm sm ((List.range' 0 (x0.length - 0)).foldl (fun ac (i : Nat) => bif c i then ac ++ ([gt x0 (i : Int)] : List α) else ac) ([] : List α)) := by
 have key : ∀ d i (a : List α), i + d = x0.length → (∀ x ∈ a, sm x) → a.length ≤ i → (∀ x ∈ (List.range' i d).foldl (fun ac (i : Nat) => bif c i then ac ++ ([gt x0 (i : Int)] : List α) else ac) a, sm x) ∧ ((List.range' i d).foldl (fun ac (i : Nat) => bif c i then ac ++ ([gt x0 (i : Int)] : List α) else ac) a).length ≤ x0.length := by
  intro d
  induction d with
  | zero => intro i a hi ha hl; exact ⟨ha, by show a.length ≤ _; omega⟩
  | succ d ih =>
   intro i a hi ha hl
   rw [List.range'_succ, List.foldl_cons]
   refine ih (i + 1) _ (by omega) ?_ ?_
   ·cases c i
    ·exact ha
    ·intro x hx
     rw [cond_true, List.mem_append] at hx
     rcases hx with hx | hx
     ·exact ha x hx
     ·rw [List.mem_singleton] at hx; subst hx; exact h.2 _ (gt_mem (by omega))
   ·cases c i
    ·show a.length ≤ i + 1; omega
    ·simp; omega
 obtain ⟨h1, h2⟩ := key x0.length 0 [] (by omega) (fun x hx => by cases hx) (by simp)
 exact ⟨Nat.le_trans h2 h.1, h1⟩
def stepAll {σ τ : Type} (g : σ → τ → Option σ) : σ → List τ → Option σ
 | s, [] => some s
 | s, r :: rs => match g s r with
  | none => none
  | some t => stepAll g t rs
theorem Evt.steps {σ τ β : Type} [Inhabited τ] {L : Nat → σ → Int → Option (β ⊕ σ)} (rs : List τ) (hn : rs.length ≤ 9223372036854775807) (I : σ → Prop) (g : σ → τ → Option σ) (bad : β)
  (step : ∀ i, i < rs.length → ∀ s, I s → ∀ o, (∀ t, g s (gt rs (i : Int)) = some t → Evt (fun k => L k t (wrap64 ((i : Int) + 1))) o) → (g s (gt rs (i : Int)) = none → o = .inl bad) → Evt (fun k => L (k + 1) s (i : Int)) o)
  (pres : ∀ s r t, I s → g s r = some t → I t) (done : ∀ s, Evt (fun k => L (k + 1) s (rs.length : Int)) (.inr s)) (s : σ) (hs : I s) :
  Evt (fun k => L k s 0) (match stepAll g s rs with | some t => .inr t | none => .inl bad) := by
 have key : ∀ d i s, i + d = rs.length → I s → Evt (fun k => L k s (i : Int)) (match stepAll g s (rs.drop i) with | some t => .inr t | none => .inl bad) := by
  intro d
  induction d with
  | zero =>
   intro i s hi hs
   rw [List.drop_of_length_le (by omega)]
   have e : i = rs.length := by omega
   subst e
   exact Evt.s (done s)
  | succ d ih =>
   intro i s hi hs
   have hlt : i < rs.length := by omega
   rw [List.drop_eq_getElem_cons hlt]
   have hg : gt rs (i : Int) = rs[i] := gt_eq (by simpa using hlt)
   refine Evt.s (step i hlt s hs _ (fun t ht => ?_) (fun ht => ?_))
   ·rw [hg] at ht
    rw [w64 hlt hn]
    have := ih (i + 1) t (by omega) (pres _ _ _ hs ht)
    simp only [stepAll, ht]
    exact this
   ·rw [hg] at ht
    simp only [stepAll, ht]
 exact key rs.length 0 s (by omega) hs
theorem stepAll_pres {σ τ : Type} {g : σ → τ → Option σ} {I : σ → Prop} (pres : ∀ s r t, I s → g s r = some t → I t) : ∀ (rs : List τ) (s t : σ), I s → stepAll g s rs = some t → I t
 | [], s, t, hs, h => by cases h; exact hs
 | r :: rs, s, t, hs, h => by
  simp only [stepAll] at h
  cases hg : g s r with
  | none => rw [hg] at h; cases h
  | some u => rw [hg] at h; exact stepAll_pres pres rs u t (pres _ _ _ hs hg) h
theorem stepAll_same {σ τ : Type} {g g' : σ → τ → Option σ} {I : σ → Prop} (pres : ∀ s r t, I s → g s r = some t → I t) (same : ∀ s r, I s → g s r = g' s r) : ∀ (rs : List τ) (s : σ), I s → stepAll g s rs = stepAll g' s rs
 | [], s, _ => rfl
 | r :: rs, s, hs => by
  simp only [stepAll]
  rw [← same s r hs]
  cases hg : g s r with
  | none => rfl
  | some u => exact stepAll_same pres same rs u (pres _ _ _ hs hg)
theorem Lm_sub {α : Type} {sm : α → Prop} {xs ys : List α} (h : Lm sm xs) (s : ys.Sublist xs) : Lm sm ys := ⟨Nat.le_trans s.length_le h.1, fun x hx => h.2 x (s.subset hx)⟩
theorem cut_sub {α : Type} (xs : List α) {a b : Nat} (h : a ≤ b) : (xs.take a ++ xs.drop b).Sublist xs := by
 have h1 : (xs.take a ++ xs.drop b).Sublist (xs.take a ++ xs.drop a) := List.Sublist.append (.refl _) (by
  have e : xs.drop b = (xs.drop a).drop (b - a) := by rw [List.drop_drop]; congr 1; omega
  rw [e]; exact List.drop_sublist _ _)
 rw [List.take_append_drop] at h1
 exact h1
theorem fs_all {β : Type} {p : Nat → Option β} {n : Nat} (h : (List.range' 0 (n - 0)).findSome? p = none) : ∀ i, i < n → p i = none := by
 intro i hi
 rw [List.findSome?_eq_none_iff] at h
 exact h i (by rw [List.mem_range']; exact ⟨i, by omega, by omega⟩)
theorem onO_zero {l : List Nat} {p : Nat → Option Int} {c : Int} (h : onO (l.findSome? p) (fun r => r) c = 0) (hp : ∀ i, p i ≠ some 0) : l.findSome? p = none ∧ c = 0 := by
 cases hf : l.findSome? p with
 | none => rw [hf] at h; exact ⟨rfl, h⟩
 | some r =>
  rw [hf] at h
  obtain ⟨i, _, hi⟩ := List.exists_of_findSome?_eq_some hf
  have : r = 0 := h
  subst this
  exact absurd hi (hp i)
theorem range_foldl {α β : Type} [Inhabited α] (xs : List α) (f : β → α → β) (a : β) : (List.range' 0 (xs.length - 0)).foldl (fun ac (i : Nat) => f ac (gt xs (i : Int))) a = xs.foldl f a := by
 have key : ∀ d i a, i + d = xs.length → (List.range' i d).foldl (fun ac (i : Nat) => f ac (gt xs (i : Int))) a = (xs.drop i).foldl f a := by
  intro d
  induction d with
  | zero => intro i a h; rw [List.drop_eq_nil_of_le (by omega)]; rfl
  | succ d ih =>
   intro i a h
   have hi : i < xs.length := by omega
   rw [List.range'_succ, List.foldl_cons, ih (i + 1) _ (by omega), List.drop_eq_getElem_cons hi, List.foldl_cons, gt_eq (by simpa using hi)]
   simp
 simpa using key xs.length 0 a (by omega)
theorem fold_map {α β : Type} (g : α → β) : ∀ (xs : List α) (ys : List β), xs.foldl (fun ac x => ac ++ [g x]) ys = ys ++ xs.map g
 | [], ys => by simp
 | x :: xs, ys => by rw [List.foldl_cons, fold_map g xs]; simp
theorem leB_of {a b : Nat} (h : a ≤ b) : leB a b = true := decide_eq_true h
theorem leB_mk2 {a b : Nat} (h : a ≤ b) : leB a b = true := decide_eq_true h
def mkB (l : List UInt8) : ByteArray := ⟨l.toArray⟩
theorem mkB_append (a b : List UInt8) : mkB a ++ mkB b = mkB (a ++ b) := by
 apply ByteArray.ext
 simp [mkB]
theorem mkB_size (l : List UInt8) : (mkB l).size = l.length := by simp [mkB, ByteArray.size]
def dgL (n : Int) : List UInt8 := Lib.decDigits n.toNat
theorem dgL_len (n : Int) : ∀ u : Nat, n.toNat = u → (dgL n).length ≤ u + 1 := by
 have key : ∀ u : Nat, (Lib.decDigits u).length ≤ u + 1 := by
  intro u
  induction u using Nat.strongRecOn with
  | _ u ih =>
   rw [Lib.decDigits]
   by_cases h : u < 10
   ·rw [dif_pos h]; simp
   ·rw [dif_neg h, List.length_append]
    have := ih (u / 10) (by omega)
    simp; omega
 intro u hu
 subst hu
 exact key _
theorem leB_mk {a b : Nat} (h : a + b ≤ 1000000) : leB (a + b) 9223372036854775807 = true := decide_eq_true (by omega)
theorem dg3 (n : Int) (h0 : 0 ≤ n) (h1 : n ≤ 999) : (dgL n).length ≤ 1000 := by
 have := dgL_len n n.toNat rfl
 omega
theorem join3 (xs : List Int) (h1 : 1 ≤ xs.length) (h3 : xs.length ≤ 3) (hk : ∀ x ∈ xs, 1 ≤ x ∧ x ≤ 999) : (Lib.join (xs.map dgL) [44]).length ≤ 3100 := by
 have hd : ∀ x ∈ xs, (dgL x).length ≤ 1000 := fun x hx => dg3 x (by have := hk x hx; omega) (hk x hx).2
 match xs, h1, h3, hd with
 | [a], _, _, hd => have := hd a (by simp); simp [Lib.join_cons, Lib.joinTail]; omega
 | [a, b], _, _, hd => have := hd a (by simp); have := hd b (by simp); simp [Lib.join_cons, Lib.joinTail]; omega
 | [a, b, c], _, _, hd => have := hd a (by simp); have := hd b (by simp); have := hd c (by simp); simp [Lib.join_cons, Lib.joinTail]; omega
 | [], h, _, _ => simp at h
 | _ :: _ :: _ :: _ :: _, _, h, _ => simp at h
theorem lens_le (m : Nat) : ∀ xs : List (List UInt8), (∀ x ∈ xs, x.length ≤ m) → Lib.lens xs ≤ m * xs.length
 | [], _ => by simp [Lib.lens]
 | x :: r, h => by
  have h1 := h x (by simp)
  have h2 := lens_le m r (fun y hy => h y (by simp [hy]))
  have e : m * (r.length + 1) = m * r.length + m := Nat.mul_succ ..
  have e2 : Lib.lens (x :: r) = x.length + Lib.lens r := by simp [Lib.lens]
  rw [e2, List.length_cons, e]; omega
theorem join_le {m n : Nat} {xs : List (List UInt8)} {sep : List UInt8} (h : ∀ x ∈ xs, x.length ≤ m) (hn : xs.length ≤ n) : (Lib.join xs sep).length ≤ m * n + sep.length * n := by
 cases xs with
 | nil => simp [Lib.join_nil]
 | cons x r =>
  have h1 := lens_le m (x :: r) h
  rw [List.length_cons] at h1 hn
  have a : m * (r.length + 1) ≤ m * n := Nat.mul_le_mul_left _ hn
  have b : sep.length * r.length ≤ sep.length * n := Nat.mul_le_mul_left _ (by omega)
  rw [Lib.join_length]; omega
def isDg (b : UInt8) : Prop := 48 ≤ b.toNat ∧ b.toNat ≤ 57
def valL (l : List UInt8) : Nat := l.foldl (fun v b => v * 10 + (b.toNat - 48)) 0
theorem valL_snoc (l : List UInt8) (b : UInt8) : valL (l ++ [b]) = valL l * 10 + (b.toNat - 48) := by simp [valL]
theorem u8dig {d : Nat} (h : d < 10) : (UInt8.ofNat (48 + d)).toNat = 48 + d := by
 rw [UInt8.toNat_ofNat']; omega
theorem dec_is (u : Nat) : (∀ b ∈ Lib.decDigits u, isDg b) ∧ valL (Lib.decDigits u) = u ∧ 1 ≤ (Lib.decDigits u).length ∧ (1 < (Lib.decDigits u).length → (Lib.decDigits u).head? ≠ some 48) ∧ (1 ≤ u → (Lib.decDigits u).head? ≠ some 48) := by
 induction u using Nat.strongRecOn with
 | _ u ih =>
  by_cases h : u < 10
  ·rw [Lib.decDigits_one h]
   refine ⟨?_, ?_, by simp, by simp, ?_⟩
   ·intro b hb
    simp only [List.mem_cons, List.not_mem_nil, or_false] at hb
    subst hb
    unfold isDg; rw [u8dig h]; omega
   ·simp only [valL, List.foldl_cons, List.foldl_nil]; rw [u8dig h]; omega
   ·intro hu e
    simp only [List.head?_cons, Option.some.injEq] at e
    have := congrArg UInt8.toNat e
    rw [u8dig h] at this
    have h48 : (48 : UInt8).toNat = 48 := rfl
    omega
  ·obtain ⟨i1, i2, i3, i4, i5⟩ := ih (u / 10) (by omega)
   rw [Lib.decDigits.eq_1 u, dif_neg h]
   have hd : u % 10 < 10 := by omega
   have hh : (Lib.decDigits (u / 10) ++ [UInt8.ofNat (48 + u % 10)]).head? = (Lib.decDigits (u / 10)).head? := by
    cases hc : Lib.decDigits (u / 10) with
    | nil => rw [hc] at i3; simp at i3
    | cons x r => rfl
   refine ⟨?_, ?_, by simp, fun _ => ?_, fun _ => ?_⟩
   ·intro b hb
    rcases List.mem_append.1 hb with hb | hb
    ·exact i1 b hb
    ·simp only [List.mem_cons, List.not_mem_nil, or_false] at hb
     subst hb
     unfold isDg; rw [u8dig hd]; omega
   ·rw [valL_snoc, i2, u8dig hd]; omega
   ·rw [hh]; exact i5 (by omega)
   ·rw [hh]; exact i5 (by omega)
theorem dec_short {u : Nat} : (u < 10 → (Lib.decDigits u).length = 1) ∧ (u < 100 → (Lib.decDigits u).length ≤ 2) ∧ (u < 1000 → (Lib.decDigits u).length ≤ 3) := by
 have k1 : ∀ u, u < 10 → (Lib.decDigits u).length = 1 := fun u h => by rw [Lib.decDigits_one h]; rfl
 have k2 : ∀ u, u < 100 → (Lib.decDigits u).length ≤ 2 := fun u h => by
  by_cases c : u < 10
  ·rw [k1 u c]; omega
  ·rw [Lib.decDigits, dif_neg c, List.length_append, k1 (u / 10) (by omega)]; simp
 refine ⟨k1 u, k2 u, fun h => ?_⟩
 by_cases c : u < 10
 ·rw [k1 u c]; omega
 ·rw [Lib.decDigits, dif_neg c, List.length_append]
  have := k2 (u / 10) (by omega)
  simp; omega
instance : DecidablePred isDg := fun b => inferInstanceAs (Decidable (48 ≤ b.toNat ∧ b.toNat ≤ 57))
theorem dg_no {c : UInt8} (hc : ¬ isDg c) (n : Int) : c ∉ dgL n := fun h => hc ((dec_is n.toNat).1 c h)
theorem dg_l2 {n : Int} (h : n ≤ 99) : (dgL n).length ≤ 2 := dec_short.2.1 (by omega)
theorem dg_l1 {n : Int} (h : n ≤ 9) : (dgL n).length ≤ 1 := by have := (dec_short (u := n.toNat)).1 (by omega); unfold dgL; omega
theorem dg_l3 {n : Int} (h : n ≤ 999) : (dgL n).length ≤ 3 := dec_short.2.2 (by omega)
theorem mem_join {b : UInt8} {sep : List UInt8} : ∀ {ps : List (List UInt8)}, b ∈ Lib.join ps sep → b ∈ sep ∨ ∃ p ∈ ps, b ∈ p
 | [], h => by simp [Lib.join_nil] at h
 | x :: r, h => by
  rw [Lib.join_cons] at h
  rcases List.mem_append.1 h with h | h
  ·exact .inr ⟨x, by simp, h⟩
  ·unfold Lib.joinTail at h
   rw [List.mem_flatten] at h
   obtain ⟨q, hq, hb⟩ := h
   obtain ⟨p, hp, rfl⟩ := List.mem_map.1 hq
   rcases List.mem_append.1 hb with hb | hb
   ·exact .inl hb
   ·exact .inr ⟨p, by simp [hp], hb⟩
theorem nodg {c : UInt8} (h : c = 32 ∨ c = 43 ∨ c = 44 ∨ c = 45 ∨ c = 58 ∨ c = 61 ∨ c = 95 := by decide) : ¬ isDg c := by
 rcases h with rfl | rfl | rfl | rfl | rfl | rfl | rfl <;> decide
theorem dec_len : ∀ (k u : Nat), u < 10 ^ (k + 1) → (Lib.decDigits u).length ≤ k + 1
 | 0, u, h => by rw [Lib.decDigits_one (by simpa using h)]; simp
 | k + 1, u, h => by
  by_cases c : u < 10
  ·rw [Lib.decDigits_one c]; simp
  ·have e : 10 ^ (k + 1 + 1) = 10 ^ (k + 1) * 10 := Nat.pow_succ ..
   rw [e] at h
   have ih := dec_len k (u / 10) (by omega)
   rw [Lib.decDigits, dif_neg c, List.length_append]
   simp; omega
theorem dg_l7 {n : Int} (h : n ≤ 9999999) : (dgL n).length ≤ 7 := dec_len 6 _ (by show n.toNat < 10000000; omega)
def codeOK (c : List Int) : Prop := c.length ≤ 1048600 ∧ ∀ x ∈ c, 0 ≤ x ∧ x ≤ 255
theorem source_ev (c : List Int) : Evt (fun k => spec_l1Source.f k c) 0 := Evt.self _
theorem w_in {a : Int} (h : 0 ≤ a ∧ a ≤ 1000000000000) : wrap64 a = a := wrap64_in _ (by omega)
theorem gt_code {c : List Int} (hc : codeOK c) {i : Int} (h0 : 0 ≤ i) (h1 : i < c.length) : 0 ≤ gt c i ∧ gt c i ≤ 255 := by
 have e : gt c i = c[i.toNat]'(by omega) := gt_eq (by omega)
 rw [e]; exact hc.2 _ (List.getElem_mem _)
theorem next_ev (c : List Int) (a n : Int) (hc : codeOK c) (ha : 0 ≤ a ∧ a ≤ 1000000) (hn : 1 ≤ n ∧ n ≤ 1000000) : ∃ v, Evt (fun k => spec_l1Next.f k ⟨c, a⟩ n) (v, a + 1) ∧ 0 ≤ v ∧ v < n := by
 have e1 : wrap64 (a + 1) = a + 1 := w_in (by omega)
 have e2 : wrap64 (a + 1 - 1) = a := by rw [show a + 1 - 1 = a by omega]; exact w_in (by omega)
 have hn1 : decide (n < 1) = false := by simp; omega
 have hn0 : (n != 0) = true := by rw [bne_iff_ne]; omega
 unfold spec_l1Next.f
 simp only [e1, e2]
 by_cases hl : c.length = 0
 ·have e3 : wrap64 (a * 7) = a * 7 := w_in (by omega)
  refine ⟨Int.tmod (a * 7) n, Evt.f hn1 (Evt.t (by rw [hl]; rfl) (Evt.chk hn0 (Evt.ret (by rw [e3])))), Int.tmod_nonneg _ (by omega), Int.tmod_lt_of_pos _ (by omega)⟩
 ·have hlp : (0 : Int) < (c.length : Int) := by omega
  have hcl := hc.1
  have hl0 : ((c.length : Int) == 0) = false := by simpa using hl
  have hln : ((c.length : Int) != 0) = true := by rw [bne_iff_ne]; omega
  have i0 := Int.tmod_nonneg (a := a) (c.length : Int) ha.1
  have i1 := Int.tmod_lt_of_pos a hlp
  have g1 := gt_code hc i0 i1
  have hq : IntKind.i64.wrap (Int.tdiv a (c.length : Int)) = a / (c.length : Int) := i64_quo _ _ ⟨ha.1, by omega, by omega⟩
  have q0 : 0 ≤ a / (c.length : Int) := Int.ediv_nonneg ha.1 (by omega)
  have q1 : a / (c.length : Int) ≤ a := Int.ediv_le_self _ ha.1
  have hi : idxOk (Int.tmod a (c.length : Int)) c.length = true := by unfold idxOk; simp; omega
  have ea : wrap64 (gt c (Int.tmod a (c.length : Int))) = gt c (Int.tmod a (c.length : Int)) := w_in (by omega)
  have eb : wrap64 ((a / (c.length : Int)) * 37) = (a / (c.length : Int)) * 37 := w_in (by omega)
  have ec : wrap64 (gt c (Int.tmod a (c.length : Int)) + (a / (c.length : Int)) * 37) = gt c (Int.tmod a (c.length : Int)) + (a / (c.length : Int)) * 37 := w_in (by omega)
  simp only [hq, ea, eb, ec]
  by_cases h2 : 200 < n
  ·have e3 : wrap64 (a + 1) = a + 1 := e1
   have j0 := Int.tmod_nonneg (a := a + 1) (c.length : Int) (by omega)
   have j1 := Int.tmod_lt_of_pos (a + 1) hlp
   have g2 := gt_code hc j0 j1
   have hj : idxOk (Int.tmod (a + 1) (c.length : Int)) c.length = true := by unfold idxOk; simp; omega
   have w1 := w_in (a := (gt c (Int.tmod a (c.length : Int)) + (a / (c.length : Int)) * 37) * 251) (by omega)
   have w2 : wrap64 (gt c (Int.tmod (a + 1) (c.length : Int))) = gt c (Int.tmod (a + 1) (c.length : Int)) := w_in (by omega)
   have w3 := w_in (a := gt c (Int.tmod (a + 1) (c.length : Int)) * 13) (by omega)
   simp only [w1, w2, w3]
   have w4 := w_in (a := (gt c (Int.tmod a (c.length : Int)) + (a / (c.length : Int)) * 37) * 251 + gt c (Int.tmod (a + 1) (c.length : Int)) * 13) (by omega)
   simp only [w4]
   have w5 := w_in (a := (gt c (Int.tmod a (c.length : Int)) + (a / (c.length : Int)) * 37) * 251 + gt c (Int.tmod (a + 1) (c.length : Int)) * 13 + a) (by omega)
   simp only [w5]
   exact ⟨_, Evt.f hn1 (Evt.f hl0 (Evt.chk hln (Evt.chk hi (Evt.chk hln (Evt.t (decide_eq_true h2) (Evt.chk hln (Evt.chk hj (Evt.chk hn0 (Evt.self _))))))))), Int.tmod_nonneg _ (by omega), Int.tmod_lt_of_pos _ (by omega)⟩
  ·exact ⟨_, Evt.f hn1 (Evt.f hl0 (Evt.chk hln (Evt.chk hi (Evt.chk hln (Evt.f (decide_eq_false h2) (Evt.chk hn0 (Evt.self _))))))), Int.tmod_nonneg _ (by omega), Int.tmod_lt_of_pos _ (by omega)⟩
theorem pick_ev (c : List Int) (a : Int) (l : List Int) (hc : codeOK c) (ha : 0 ≤ a ∧ a ≤ 1000000) (hl : 1 ≤ l.length ∧ l.length ≤ 1000000) : ∃ v, Evt (fun k => spec_l1Pick.f k ⟨c, a⟩ l) (v, a + 1) ∧ v ∈ l := by
 obtain ⟨v, e, h0, h1⟩ := next_ev c a (l.length : Int) hc ha (by omega)
 refine ⟨gt l v, Evt.bind e (Evt.chk (by unfold idxOk; simp; omega) (Evt.self _)), ?_⟩
 have e2 : gt l v = l[v.toNat]'(by omega) := gt_eq (by omega)
 rw [e2]; exact List.getElem_mem _
def spec_l1In_v (x0 : Int) (x1 : Int) (x2 : Int) : Bool := ((decide (x1 ≤ x0)) && (decide (x0 ≤ x2)))
theorem spec_l1In_ev (x0 : Int) (x1 : Int) (x2 : Int)  : Evt (fun k => spec_l1In.f k x0 x1 x2) (spec_l1In_v x0 x1 x2) :=
 (Evt.self _)
def spec_l1Key_v (x0 : Int) : Bool := (spec_l1In_v x0 1 999)
theorem spec_l1Key_ev (x0 : Int)  : Evt (fun k => spec_l1Key.f k x0) (spec_l1Key_v x0) :=
 (Evt.bind (spec_l1In_ev x0 1 999) (Evt.self _))
def spec_l2Height_v (x0 : Int) : Bool := (spec_l1In_v x0 0 999)
theorem spec_l2Height_ev (x0 : Int)  : Evt (fun k => spec_l2Height.f k x0) (spec_l2Height_v x0) :=
 (Evt.bind (spec_l1In_ev x0 0 999) (Evt.self _))
def spec_l2Fault_v (x0 : Rule) : Int := (bif !(spec_l1In_v (x0.fKeys.length : Int) 1 3) then 2 else (onO ((List.range' 0 (x0.fKeys.length - 0)).findSome? (fun (i0 : Nat) => (bif !(spec_l1Key_v (gt x0.fKeys (i0 : Int))) then (some 3) else none))) (fun r => r) (bif ((!(spec_l1In_v x0.fNeed 1 (x0.fKeys.length : Int))) || (!(bif (!(!(spec_l1In_v x0.fNeed 1 (x0.fKeys.length : Int)))) then (spec_l2Height_v x0.fAfter) else default))) then 3 else (onO ((List.range' 1 (x0.fKeys.length - 1)).findSome? (fun (i2 : Nat) => (bif (decide ((gt x0.fKeys (i2 : Int)) ≤ (gt x0.fKeys (wrap64 ((i2 : Int) - 1))))) then (some 1) else none))) (fun r => r) 0))))
theorem spec_l2Fault_ev (x0 : Rule) (h_x0 : smRule x0) : Evt (fun k => spec_l2Fault.f k x0) (spec_l2Fault_v x0) :=
 (Evt.bind (spec_l1In_ev (x0.fKeys.length : Int) 1 3) (Evt.ifh (fun hc5 => (Evt.self _)) (fun hc5 => (Evt.loop (r' := fun r => r) (Evt.srch (L := (fun k i => spec_l2Fault.l0 x0 k i)) 0 x0.fKeys.length (by have := h_x0.1; first | (have := this.1; omega) | omega) (fun (i0 : Nat) => (bif !(spec_l1Key_v (gt x0.fKeys (i0 : Int))) then (some 3) else none)) (fun i0 hs2 hi2 => by
 have hbn : x0.fKeys.length ≤ 9223372036854775807 := (by have := h_x0.1; first | (have := this.1; omega) | omega)
 simp only [spec_l2Fault.l0.eq_2]
 exact Evt_t2 (int_lt hi2) (StE.chk (by first | exact idx_ok (by omega) | exact idx_ok (by have hq := len_eq (by assumption); omega) | exact idx_found (show (0 : Int) ≤ (i0 : Int) by simp_all) | exact cut_ok (by omega) | exact or_ok (idx_ok (by omega)) | (refine or1 (fun hz => pre_ok (by simp at hz; omega) (by omega) (by omega))) | exact pre_ok (by omega) (by omega) (by omega) | (simp_all [idxOk, cutOk, leB]; done) | (simp_all [idxOk, cutOk, leB]; omega) | (simp [idxOk, cutOk, leB] at *; omega) | (have hf0 := h_x0.1.1; simp only [leB, decide_eq_true_eq, List.length_append, List.length_cons, List.length_nil]; omega)) (StE.bind (spec_l1Key_ev (gt x0.fKeys (i0 : Int))) (StE.ifh (fun hc1 => (StE.ret _)) (fun hc1 => StE.next))))) (fun j hj => by
 simp only [spec_l2Fault.l0.eq_2]
 exact Evt.f (ge_lt hj) (Evt.self _))) (fun _ => rfl) (Evt.bind (spec_l1In_ev x0.fNeed 1 (x0.fKeys.length : Int)) (Evt.bind (Evt.ifh (fun _ => (spec_l2Height_ev x0.fAfter)) (fun _ => Evt.self _)) (Evt.ifh (fun hc4 => (Evt.self _)) (fun hc4 => (Evt.loop (r' := fun r => r) (Evt.srch (L := (fun k i => spec_l2Fault.l1 x0 k i)) 1 x0.fKeys.length (by have := h_x0.1; first | (have := this.1; omega) | omega) (fun (i2 : Nat) => (bif (decide ((gt x0.fKeys (i2 : Int)) ≤ (gt x0.fKeys (wrap64 ((i2 : Int) - 1))))) then (some 1) else none)) (fun i2 hs4 hi4 => by
 have hbn : x0.fKeys.length ≤ 9223372036854775807 := (by have := h_x0.1; first | (have := this.1; omega) | omega)
 simp only [spec_l2Fault.l1.eq_2]
 exact Evt_t2 (int_lt hi4) (StE.chk (by first | exact idx_ok (by omega) | exact idx_ok (by have hq := len_eq (by assumption); omega) | exact idx_found (show (0 : Int) ≤ (i2 : Int) by simp_all) | exact cut_ok (by omega) | exact or_ok (idx_ok (by omega)) | (refine or1 (fun hz => pre_ok (by simp at hz; omega) (by omega) (by omega))) | exact pre_ok (by omega) (by omega) (by omega) | (simp_all [idxOk, cutOk, leB]; done) | (simp_all [idxOk, cutOk, leB]; omega) | (simp [idxOk, cutOk, leB] at *; omega) | (have hf0 := h_x0.1.1; simp only [leB, decide_eq_true_eq, List.length_append, List.length_cons, List.length_nil]; omega)) (StE.chk (by first | exact idx_ok (by omega) | exact idx_ok (by have hq := len_eq (by assumption); omega) | exact idx_found (show (0 : Int) ≤ (wrap64 ((i2 : Int) - 1)) by simp_all) | exact cut_ok (by omega) | exact or_ok (idx_ok (by omega)) | (refine or1 (fun hz => pre_ok (by simp at hz; omega) (by omega) (by omega))) | exact pre_ok (by omega) (by omega) (by omega) | (simp_all [idxOk, cutOk, leB]; done) | (simp_all [idxOk, cutOk, leB]; omega) | (simp [idxOk, cutOk, leB] at *; omega) | (have hf0 := h_x0.1.1; simp only [leB, decide_eq_true_eq, List.length_append, List.length_cons, List.length_nil]; omega)) (StE.ifh (fun hc3 => (StE.ret _)) (fun hc3 => StE.next))))) (fun j hj => by
 simp only [spec_l2Fault.l1.eq_2]
 exact Evt.f (ge_lt hj) (Evt.self _))) (fun _ => rfl) (Evt.self _))))))))))
structure RuleOK (r : Rule) : Prop where
 n1 : 1 ≤ r.fKeys.length
 n3 : r.fKeys.length ≤ 3
 key : ∀ x ∈ r.fKeys, 1 ≤ x ∧ x ≤ 999
 need : 1 ≤ r.fNeed ∧ r.fNeed ≤ 3
 after : 0 ≤ r.fAfter ∧ r.fAfter ≤ 999
theorem rule_ok (x0 : Rule) (h : (spec_l2Fault_v x0 != 0) = false) : RuleOK x0 := by
 have h0 : spec_l2Fault_v x0 = 0 := by simpa using h
 unfold spec_l2Fault_v at h0
 cases ha : spec_l1In_v (x0.fKeys.length : Int) 1 3
 ·rw [ha] at h0; exact absurd (show (2 : Int) = 0 from h0) (by decide)
 ·rw [ha] at h0
  have h1 : onO ((List.range' 0 (x0.fKeys.length - 0)).findSome? (fun (i0 : Nat) => (bif !(spec_l1Key_v (gt x0.fKeys (i0 : Int))) then (some (3 : Int)) else none))) (fun r => r) (bif ((!(spec_l1In_v x0.fNeed 1 (x0.fKeys.length : Int))) || (!(bif (!(!(spec_l1In_v x0.fNeed 1 (x0.fKeys.length : Int)))) then (spec_l2Height_v x0.fAfter) else default))) then 3 else (onO ((List.range' 1 (x0.fKeys.length - 1)).findSome? (fun (i2 : Nat) => (bif (decide ((gt x0.fKeys (i2 : Int)) ≤ (gt x0.fKeys (wrap64 ((i2 : Int) - 1))))) then (some 1) else none))) (fun r => r) 0)) = 0 := h0
  obtain ⟨h2, h3⟩ := onO_zero h1 (fun i => by cases spec_l1Key_v (gt x0.fKeys (i : Int)) <;> simp)
  have hk := fs_all h2
  simp only [spec_l1In_v, Bool.and_eq_true, decide_eq_true_eq] at ha
  cases hb : spec_l1In_v x0.fNeed 1 (x0.fKeys.length : Int)
  ·rw [hb] at h3; exact absurd (show (3 : Int) = 0 from h3) (by decide)
  ·cases hc : spec_l2Height_v x0.fAfter
   ·rw [hb, hc] at h3; exact absurd (show (3 : Int) = 0 from h3) (by decide)
   ·simp only [spec_l2Height_v, spec_l1In_v, Bool.and_eq_true, decide_eq_true_eq] at hb hc
    refine ⟨by omega, by omega, fun x hx => ?_, by omega, hc⟩
    obtain ⟨i, hi, rfl⟩ := List.getElem_of_mem hx
    have h4 := hk i hi
    rw [gt_eq (by simpa using hi)] at h4
    cases h5 : spec_l1Key_v x0.fKeys[i]
    ·simp only [Int.toNat_natCast] at h4; rw [h5] at h4; cases h4
    ·simp only [spec_l1Key_v, spec_l1In_v, Bool.and_eq_true, decide_eq_true_eq] at h5
     exact h5
def ruleL (r : Rule) (bl : List UInt8) : List UInt8 := dgL r.fNeed ++ bl ++ [111, 102] ++ bl ++ Lib.join (r.fKeys.map dgL) [44] ++ (bif r.fAfter != 0 then bl ++ [97, 102, 116, 101, 114] ++ bl ++ dgL r.fAfter else [])
theorem ruleL_len (r : Rule) (c : UInt8) (hr : RuleOK r) : (ruleL r [c]).length ≤ 50 := by
 have h1 := dg_l3 (n := r.fNeed) (by have := hr.need; omega)
 have h2 := dg_l3 (n := r.fAfter) (by have := hr.after; omega)
 have hk := join_le (m := 3) (n := 3) (sep := [44]) (xs := r.fKeys.map dgL) (by
  intro x hx
  obtain ⟨y, hy, rfl⟩ := List.mem_map.1 hx
  have := hr.key y hy
  exact dg_l3 (by omega)) (by rw [List.length_map]; exact hr.n3)
 simp only [List.length_cons, List.length_nil] at hk
 unfold ruleL
 cases r.fAfter != 0
 ·simp only [cond_false, List.length_append, List.length_cons, List.length_nil]; omega
 ·simp only [cond_true, List.length_append, List.length_cons, List.length_nil]; omega
theorem Evt.bindc {A B γ : Type} {F : Nat → Option (A × B)} {G : Nat → A → B → Option γ} {a : A} {b : B} {r : γ} (h : Evt F (a, b)) (h2 : Evt (fun k => G k a b) r) : Evt (fun k => (F k).bind (cur2 (G k))) r := Evt.bind h h2
theorem Evt.bindc5 {A B C D E γ : Type} {F : Nat → Option (A × B × C × D × E)} {G : Nat → A → B → C → D → E → Option γ} {a : A} {b : B} {c : C} {d : D} {e : E} {r : γ} (h : Evt F (a, b, c, d, e)) (h2 : Evt (fun k => G k a b c d e) r) : Evt (fun k => (F k).bind (cur5 (G k))) r := Evt.bind h h2
structure KeysUp (xs : List Int) : Prop where
 l1 : 1 ≤ xs.length
 l3 : xs.length ≤ 3
 up : xs.Pairwise (· < ·)
 key : ∀ x ∈ xs, 1 ≤ x ∧ x ≤ 3 * (xs.length : Int)
 last : ∀ x ∈ xs, x ≤ gt xs ((xs.length - 1 : Nat) : Int)
theorem KeysUp.snoc {xs : List Int} {y : Int} (h : KeysUp xs) (h2 : xs.length ≤ 2) (h3 : gt xs ((xs.length - 1 : Nat) : Int) < y) (h4 : y ≤ gt xs ((xs.length - 1 : Nat) : Int) + 2) : KeysUp (xs ++ [y]) := by
 have hl := h.l1
 have hg := h.key _ (gt_mem (xs := xs) (i := xs.length - 1) (by omega))
 have e : (xs ++ [y]).length = xs.length + 1 := by simp
 refine ⟨by omega, by omega, List.pairwise_append.2 ⟨h.up, by simp, fun a ha b hb => ?_⟩, fun x hx => ?_, fun x hx => ?_⟩
 ·simp at hb; subst hb
  have := h.last a ha; omega
 ·rw [e]
  rcases List.mem_append.1 hx with hx | hx
  ·have := h.key x hx; omega
  ·simp at hx; subst hx; omega
 ·have e2 : gt (xs ++ [y]) (((xs ++ [y]).length - 1 : Nat) : Int) = y := by
   rw [e, Nat.add_sub_cancel, gt_eq (by simp)]
   simp
  rw [e2]
  rcases List.mem_append.1 hx with hx | hx
  ·have := h.last x hx; omega
  ·simp at hx; omega
theorem rule_zero (r : Rule) (h : KeysUp r.fKeys) (hn : 1 ≤ r.fNeed ∧ r.fNeed ≤ (r.fKeys.length : Int)) (ha : 0 ≤ r.fAfter ∧ r.fAfter ≤ 999) : spec_l2Fault_v r = 0 := by
 have l1 := h.l1; have l3 := h.l3
 have a1 : spec_l1In_v (r.fKeys.length : Int) 1 3 = true := by simp only [spec_l1In_v, Bool.and_eq_true, decide_eq_true_eq]; omega
 have a2 : spec_l1In_v r.fNeed 1 (r.fKeys.length : Int) = true := by simp only [spec_l1In_v, Bool.and_eq_true, decide_eq_true_eq]; omega
 have a3 : spec_l2Height_v r.fAfter = true := by simp only [spec_l2Height_v, spec_l1In_v, Bool.and_eq_true, decide_eq_true_eq]; omega
 have f1 : (List.range' 0 (r.fKeys.length - 0)).findSome? (fun (i0 : Nat) => (bif !(spec_l1Key_v (gt r.fKeys (i0 : Int))) then (some (3 : Int)) else none)) = none := by
  rw [List.findSome?_eq_none_iff]
  intro i hi
  have hlt : i < r.fKeys.length := by rw [List.mem_range'_1] at hi; omega
  have := h.key _ (gt_mem hlt)
  have hk : spec_l1Key_v (gt r.fKeys (i : Int)) = true := by simp only [spec_l1Key_v, spec_l1In_v, Bool.and_eq_true, decide_eq_true_eq]; omega
  rw [hk]; rfl
 have f2 : (List.range' 1 (r.fKeys.length - 1)).findSome? (fun (i2 : Nat) => (bif (decide ((gt r.fKeys (i2 : Int)) ≤ (gt r.fKeys (wrap64 ((i2 : Int) - 1))))) then (some (1 : Int)) else none)) = none := by
  rw [List.findSome?_eq_none_iff]
  intro i hi
  rw [List.mem_range'_1] at hi
  have hlt : i < r.fKeys.length := by omega
  have e : wrap64 ((i : Int) - 1) = ((i - 1 : Nat) : Int) := by rw [wrap64_in _ (by omega)]; omega
  have := List.pairwise_iff_getElem.1 h.up (i - 1) i (by omega) hlt (by omega)
  rw [e, gt_eq (by simpa using hlt), gt_eq (by simp; omega)]
  simp only [Int.toNat_natCast]
  rw [decide_eq_false (by omega)]; rfl
 unfold spec_l2Fault_v
 rw [a1, f1, a2, a3, f2]; rfl
theorem l2Draw_loop (c : List Int) (z : l1Src) (hz : z.fCode = c) (hc : codeOK c) : ∀ (d : Nat) (a : Int) (xs : List Int), 0 ≤ a → a + d ≤ 900000 → xs.length + d ≤ 3 → KeysUp xs → ∃ a' xs', Evt (fun k => spec_l2Draw.l0 z k a xs (d : Int)) (a', xs') ∧ a ≤ a' ∧ a' ≤ a + d ∧ KeysUp xs'
 | 0, a, xs, h0, h1, h2, h3 => by
  refine ⟨a, xs, Evt.s ?_, by omega, by omega, h3⟩
  simp only [spec_l2Draw.l0.eq_2]
  exact Evt.f rfl (Evt.self _)
 | d + 1, a, xs, h0, h1, h2, h3 => by
  obtain ⟨v, ev, v0, v1⟩ := next_ev c a 2 hc (by omega) (by omega)
  have l1 := h3.l1
  have hg := h3.key _ (gt_mem (xs := xs) (i := xs.length - 1) (by omega))
  have hd : decide ((0 : Int) < ((d + 1 : Nat) : Int)) = true := decide_eq_true (by omega)
  have ew : wrap64 (((d + 1 : Nat) : Int) - 1) = (d : Int) := by rw [wrap64_in _ (by omega)]; omega
  have el : wrap64 ((xs.length : Int) - 1) = ((xs.length - 1 : Nat) : Int) := by rw [wrap64_in _ (by omega)]; omega
  have e1 : wrap64 (gt xs ((xs.length - 1 : Nat) : Int) + 1) = gt xs ((xs.length - 1 : Nat) : Int) + 1 := w_in (by omega)
  have e2 : wrap64 (gt xs ((xs.length - 1 : Nat) : Int) + 1 + v) = gt xs ((xs.length - 1 : Nat) : Int) + 1 + v := w_in (by omega)
  obtain ⟨a', xs', e, q1, q2, q3⟩ := l2Draw_loop c z hz hc d (a + 1) (xs ++ [gt xs ((xs.length - 1 : Nat) : Int) + 1 + v]) (by omega) (by omega) (by simp; omega) (h3.snoc (by omega) (by omega) (by omega))
  refine ⟨a', xs', Evt.s ?_, by omega, by omega, q3⟩
  simp only [spec_l2Draw.l0.eq_2, hz, el]
  refine Evt.t hd (Evt.chk (idx_ok (by omega)) (Evt.bind ev ?_))
  simp only [e1, e2, ew]
  exact Evt.chk (leB_mk2 (by simp; omega)) e
theorem l2Draw_ev (c : List Int) (a : Int) (hc : codeOK c) (h0 : 0 ≤ a) (h1 : a ≤ 800000) : ∃ r a', Evt (fun k => spec_l2Draw.f k ⟨c, a⟩) (r, a') ∧ a ≤ a' ∧ a' ≤ a + 10 ∧ spec_l2Fault_v r = 0 := by
 obtain ⟨v1, e1, p1, q1⟩ := next_ev c a 3 hc (by omega) (by omega)
 obtain ⟨v2, e2, p2, q2⟩ := next_ev c (a + 1) 3 hc (by omega) (by omega)
 obtain ⟨n, rfl⟩ : ∃ n : Nat, v2 = n := ⟨v2.toNat, by omega⟩
 have w1 : wrap64 (1 + v1) = 1 + v1 := w_in (by omega)
 have hk0 : KeysUp [1 + v1] := ⟨by simp, by simp, by simp, fun x hx => by simp at hx; subst hx; simp; omega, fun x hx => by simp at hx; subst hx; exact Int.le_of_eq rfl⟩
 obtain ⟨a', xs, e3, r1, r2, r3⟩ := l2Draw_loop c ⟨c, a⟩ rfl hc n (a + 1 + 1) [1 + v1] (by omega) (by omega) (by simp; omega) hk0
 have l1 := r3.l1; have l3 := r3.l3
 obtain ⟨v4, e4, p4, q4⟩ := next_ev c a' (xs.length : Int) hc (by omega) (by omega)
 obtain ⟨v5, e5, p5, q5⟩ := next_ev c (a' + 1) 9 hc (by omega) (by omega)
 obtain ⟨v6, e6, m6⟩ := pick_ev c (a' + 1 + 1) [0, 0, 0, v5] hc (by omega) (by simp)
 have w4 : wrap64 (1 + v4) = 1 + v4 := w_in (by omega)
 have h6 : 0 ≤ v6 ∧ v6 ≤ 8 := by simp only [List.mem_cons, List.not_mem_nil, or_false] at m6; omega
 refine ⟨⟨xs, 1 + v4, v6⟩, a' + 1 + 1 + 1, ?_, by omega, by omega, rule_zero _ r3 ⟨by show 1 ≤ 1 + v4; omega, by show 1 + v4 ≤ (xs.length : Int); omega⟩ ⟨h6.1, by show v6 ≤ 999; omega⟩⟩
 refine Evt.bind e1 (Evt.bindc (Evt.bind e2 (show Evt (fun k => spec_l2Draw.l0 ⟨c, a⟩ k (a + 1 + 1) [wrap64 (1 + v1)] (n : Int)) (a', xs) by rw [w1]; exact e3)) (Evt.bind e4 (Evt.bind e5 (Evt.bind e6 (Evt.ret ?_)))))
 show ((⟨xs, wrap64 (1 + v4), v6⟩ : Rule), a' + 1 + 1 + 1) = _
 rw [w4]
theorem rule_sm {r : Rule} (h : spec_l2Fault_v r = 0) : smRule r := ⟨⟨by have := (rule_ok r (by rw [h]; rfl)).n3; omega, fun _ _ => trivial⟩, trivial, trivial⟩
theorem l4DrawOuts_loop (c : List Int) (z : l1Src) (hz : z.fCode = c) (hc : codeOK c) : ∀ (d : Nat) (a : Int) (xs : List Out), 0 ≤ a → a + 11 * d ≤ 800000 → xs.length + d ≤ 3 → (∀ o ∈ xs, smOut o) → ∃ a' xs', Evt (fun k => spec_l4DrawOuts.l0 z k a xs (d : Int)) (a', xs') ∧ a ≤ a' ∧ a' ≤ a + 11 * d ∧ xs'.length ≤ xs.length + d ∧ ∀ o ∈ xs', smOut o
 | 0, a, xs, h0, h1, h2, h3 => by
  refine ⟨a, xs, Evt.s ?_, by omega, by omega, by omega, h3⟩
  simp only [spec_l4DrawOuts.l0.eq_2]
  exact Evt.f rfl (Evt.self _)
 | d + 1, a, xs, h0, h1, h2, h3 => by
  obtain ⟨v, ev, v0, v1⟩ := next_ev c a 300 hc (by omega) (by omega)
  obtain ⟨r, a1, er, p1, q1, hr⟩ := l2Draw_ev c (a + 1) hc (by omega) (by omega)
  have hd : decide ((0 : Int) < ((d + 1 : Nat) : Int)) = true := decide_eq_true (by omega)
  have ew : wrap64 (((d + 1 : Nat) : Int) - 1) = (d : Int) := by rw [wrap64_in _ (by omega)]; omega
  obtain ⟨a', xs', e, q2, q3, q4, q5⟩ := l4DrawOuts_loop c z hz hc d a1 (xs ++ [⟨wrap64 (1 + v), r⟩]) (by omega) (by omega) (by simp; omega) (fun o ho => by
   rcases List.mem_append.1 ho with ho | ho
   ·exact h3 o ho
   ·simp at ho; subst ho; exact ⟨trivial, rule_sm hr⟩)
  refine ⟨a', xs', Evt.s ?_, by omega, by omega, by simp at q4; omega, q5⟩
  simp only [spec_l4DrawOuts.l0.eq_2, hz, ew]
  exact Evt.t hd (Evt.bind ev (Evt.bind er (Evt.chk (leB_mk2 (by simp; omega)) e)))
theorem l4DrawOuts_ev (c : List Int) (a : Int) (hc : codeOK c) (h0 : 0 ≤ a) (h1 : a ≤ 700000) : ∃ xs a', Evt (fun k => spec_l4DrawOuts.f k ⟨c, a⟩) (xs, a') ∧ a ≤ a' ∧ a' ≤ a + 40 ∧ xs.length ≤ 3 ∧ Lm smOut xs := by
 obtain ⟨v, e, v0, v1⟩ := next_ev c a 4 hc (by omega) (by omega)
 obtain ⟨n, rfl⟩ : ∃ n : Nat, v = n := ⟨v.toNat, by omega⟩
 obtain ⟨a', xs, e2, r1, r2, r3, r4⟩ := l4DrawOuts_loop c ⟨c, a⟩ rfl hc n (a + 1) [] (by omega) (by omega) (by simp; omega) (by simp)
 simp at r3
 exact ⟨xs, a', Evt.bindc (Evt.bind e e2) (Evt.self _), by omega, by omega, by omega, ⟨by omega, r4⟩⟩
theorem chance_ev (c : List Int) (a n : Int) (hc : codeOK c) (ha : 0 ≤ a ∧ a ≤ 1000000) (hn : 1 ≤ n ∧ n ≤ 1000000) : ∃ v, Evt (fun k => spec_l1Chance.f k ⟨c, a⟩ n) (v, a + 1) := by
 obtain ⟨v, e, _, _⟩ := next_ev c a n hc ha hn
 exact ⟨v == 0, Evt.bind e (Evt.self _)⟩
def spec_l3Ref_v (x0 : Ref) : Bool := ((spec_l1In_v x0.fTx 1 60) && (bif (spec_l1In_v x0.fTx 1 60) then (spec_l1In_v x0.fAt 0 3) else default))
theorem spec_l3Ref_ev (x0 : Ref)  : Evt (fun k => spec_l3Ref.f k x0) (spec_l3Ref_v x0) :=
 (Evt.bind (spec_l1In_ev x0.fTx 1 60) (Evt.bind (Evt.ifh (fun _ => (spec_l1In_ev x0.fAt 0 3)) (fun _ => Evt.self _)) (Evt.self _)))
def spec_l4Out_v (x0 : Out) : Int := (bif !(spec_l1In_v x0.fValue 1 1000000) then 3 else (spec_l2Fault_v x0.fRule))
theorem spec_l4Out_ev (x0 : Out) (h_x0 : smOut x0) : Evt (fun k => spec_l4Out.f k x0) (spec_l4Out_v x0) :=
 (Evt.bind (spec_l1In_ev x0.fValue 1 1000000) (Evt.ifh (fun hc0 => (Evt.self _)) (fun hc0 => (Evt.bind (spec_l2Fault_ev x0.fRule (h_x0.2)) (Evt.self _)))))
def spec_l4Ahead_v (x0 : Ref) (x1 : Ref) : Bool := (bif (x0.fTx != x1.fTx) then (decide (x0.fTx < x1.fTx)) else (decide (x0.fAt < x1.fAt)))
theorem spec_l4Ahead_ev (x0 : Ref) (x1 : Ref)  : Evt (fun k => spec_l4Ahead.f k x0 x1) (spec_l4Ahead_v x0 x1) :=
 (Evt.ifh (fun hc0 => (Evt.self _)) (fun hc0 => (Evt.self _)))
def spec_l4Fault_v (x0 : List Coin) : Int := (bif (decide (40 < (x0.length : Int))) then 2 else (onO ((List.range' 0 (x0.length - 0)).findSome? (fun (i0 : Nat) => (bif ((!(spec_l3Ref_v ((gt x0 (i0 : Int)).fRef))) || (!(bif (!(!(spec_l3Ref_v ((gt x0 (i0 : Int)).fRef)))) then (spec_l2Height_v ((gt x0 (i0 : Int)).fHeight)) else default))) then (some 3) else (bif ((spec_l4Out_v ((gt x0 (i0 : Int)).fOut)) != 0) then (some (spec_l4Out_v ((gt x0 (i0 : Int)).fOut))) else (bif ((decide (0 < (i0 : Int))) && (!(bif (decide (0 < (i0 : Int))) then (spec_l4Ahead_v ((gt x0 (wrap64 ((i0 : Int) - 1))).fRef) ((gt x0 (i0 : Int)).fRef)) else default))) then (some 1) else none))))) (fun r => r) 0))
theorem spec_l4Fault_ev (x0 : List Coin) (h_x0 : (Lm smCoin) x0) : Evt (fun k => spec_l4Fault.f k x0) (spec_l4Fault_v x0) :=
 (Evt.ifh (fun hc4 => (Evt.self _)) (fun hc4 => (Evt.loop (r' := fun r => r) (Evt.srch (L := (fun k i => spec_l4Fault.l0 x0 k i)) 0 x0.length (by have := h_x0; first | (have := this.1; omega) | omega) (fun (i0 : Nat) => (bif ((!(spec_l3Ref_v ((gt x0 (i0 : Int)).fRef))) || (!(bif (!(!(spec_l3Ref_v ((gt x0 (i0 : Int)).fRef)))) then (spec_l2Height_v ((gt x0 (i0 : Int)).fHeight)) else default))) then (some 3) else (bif ((spec_l4Out_v ((gt x0 (i0 : Int)).fOut)) != 0) then (some (spec_l4Out_v ((gt x0 (i0 : Int)).fOut))) else (bif ((decide (0 < (i0 : Int))) && (!(bif (decide (0 < (i0 : Int))) then (spec_l4Ahead_v ((gt x0 (wrap64 ((i0 : Int) - 1))).fRef) ((gt x0 (i0 : Int)).fRef)) else default))) then (some 1) else none)))) (fun i0 hs4 hi4 => by
 have hbn : x0.length ≤ 9223372036854775807 := (by have := h_x0; first | (have := this.1; omega) | omega)
 simp only [spec_l4Fault.l0.eq_2]
 exact Evt_t2 (int_lt hi4) (StE.chk (by first | exact idx_ok (by omega) | exact idx_ok (by have hq := len_eq (by assumption); omega) | exact idx_found (show (0 : Int) ≤ (i0 : Int) by simp_all) | exact cut_ok (by omega) | exact or_ok (idx_ok (by omega)) | (refine or1 (fun hz => pre_ok (by simp at hz; omega) (by omega) (by omega))) | exact pre_ok (by omega) (by omega) (by omega) | (simp_all [idxOk, cutOk, leB]; done) | (simp_all [idxOk, cutOk, leB]; omega) | (simp [idxOk, cutOk, leB] at *; omega) | (have hf0 := h_x0.1; simp only [leB, decide_eq_true_eq, List.length_append, List.length_cons, List.length_nil]; omega)) (StE.bind (spec_l3Ref_ev ((gt x0 (i0 : Int)).fRef)) (StE.chk (by first | exact idx_ok (by omega) | exact idx_ok (by have hq := len_eq (by assumption); omega) | exact idx_found (by simp_all) | exact cut_ok (by omega) | exact or_ok (idx_ok (by omega)) | (refine or1 (fun hz => pre_ok (by simp at hz; omega) (by omega) (by omega))) | exact pre_ok (by omega) (by omega) (by omega) | (simp_all [idxOk, cutOk, leB]; done) | (simp_all [idxOk, cutOk, leB]; omega) | (simp [idxOk, cutOk, leB] at *; omega) | (have hf0 := h_x0.1; simp only [leB, decide_eq_true_eq, List.length_append, List.length_cons, List.length_nil]; omega)) (StE.bind (Evt.ifh (fun _ => (spec_l2Height_ev ((gt x0 (i0 : Int)).fHeight))) (fun _ => Evt.self _)) (StE.ifh (fun hc3 => (StE.ret _)) (fun hc3 => (StE.chk (by first | exact idx_ok (by omega) | exact idx_ok (by have hq := len_eq (by assumption); omega) | exact idx_found (show (0 : Int) ≤ (i0 : Int) by simp_all) | exact cut_ok (by omega) | exact or_ok (idx_ok (by omega)) | (refine or1 (fun hz => pre_ok (by simp at hz; omega) (by omega) (by omega))) | exact pre_ok (by omega) (by omega) (by omega) | (simp_all [idxOk, cutOk, leB]; done) | (simp_all [idxOk, cutOk, leB]; omega) | (simp [idxOk, cutOk, leB] at *; omega) | (have hf0 := h_x0.1; simp only [leB, decide_eq_true_eq, List.length_append, List.length_cons, List.length_nil]; omega)) (StE.bind (spec_l4Out_ev ((gt x0 (i0 : Int)).fOut) (((h_x0).2 _ (gt_mem (by first | omega | (have hq := len_eq (by assumption); omega) | (have hf0 := h_x0.1; simp only [leB, decide_eq_true_eq, List.length_append, List.length_cons, List.length_nil]; omega)))).2.1)) (StE.ifh (fun hc2 => (StE.ret _)) (fun hc2 => (StE.chk (by first | exact idx_ok (by omega) | exact idx_ok (by have hq := len_eq (by assumption); omega) | exact idx_found (by simp_all) | exact cut_ok (by omega) | exact or_ok (idx_ok (by omega)) | (refine or1 (fun hz => pre_ok (by simp at hz; omega) (by omega) (by omega))) | exact pre_ok (by omega) (by omega) (by omega) | (simp_all [idxOk, cutOk, leB]; done) | (simp_all [idxOk, cutOk, leB]; omega) | (simp [idxOk, cutOk, leB] at *; omega) | (have hf0 := h_x0.1; simp only [leB, decide_eq_true_eq, List.length_append, List.length_cons, List.length_nil]; omega)) (StE.chk (by first | exact idx_ok (by omega) | exact idx_ok (by have hq := len_eq (by assumption); omega) | exact idx_found (by simp_all) | exact cut_ok (by omega) | exact or_ok (idx_ok (by omega)) | (refine or1 (fun hz => pre_ok (by simp at hz; omega) (by omega) (by omega))) | exact pre_ok (by omega) (by omega) (by omega) | (simp_all [idxOk, cutOk, leB]; done) | (simp_all [idxOk, cutOk, leB]; omega) | (simp [idxOk, cutOk, leB] at *; omega) | (have hf0 := h_x0.1; simp only [leB, decide_eq_true_eq, List.length_append, List.length_cons, List.length_nil]; omega)) (StE.bind (Evt.ifh (fun _ => (spec_l4Ahead_ev ((gt x0 (wrap64 ((i0 : Int) - 1))).fRef) ((gt x0 (i0 : Int)).fRef))) (fun _ => Evt.self _)) (StE.ifh (fun hc1 => (StE.ret _)) (fun hc1 => StE.next)))))))))))))))) (fun j hj => by
 simp only [spec_l4Fault.l0.eq_2]
 exact Evt.f (ge_lt hj) (Evt.self _))) (fun _ => rfl) (Evt.self _))))
def spec_l4Of_v (x0 : List Coin) (x1 : Int) : Bool := (onO ((List.range' 0 (x0.length - 0)).findSome? (fun (i0 : Nat) => (bif (((gt x0 (i0 : Int)).fRef.fTx) == x1) then (some true) else none))) (fun r => r) false)
theorem spec_l4Of_ev (x0 : List Coin) (x1 : Int) (h_x0 : (Lm smCoin) x0) : Evt (fun k => spec_l4Of.f k x0 x1) (spec_l4Of_v x0 x1) :=
 (Evt.loop (r' := fun r => r) (Evt.srch (L := (fun k i => spec_l4Of.l0 x0 x1 k i)) 0 x0.length (by have := h_x0; first | (have := this.1; omega) | omega) (fun (i0 : Nat) => (bif (((gt x0 (i0 : Int)).fRef.fTx) == x1) then (some true) else none)) (fun i0 hs2 hi2 => by
 have hbn : x0.length ≤ 9223372036854775807 := (by have := h_x0; first | (have := this.1; omega) | omega)
 simp only [spec_l4Of.l0.eq_2]
 exact Evt_t2 (int_lt hi2) (StE.chk (by first | exact idx_ok (by omega) | exact idx_ok (by have hq := len_eq (by assumption); omega) | exact idx_found (show (0 : Int) ≤ (i0 : Int) by simp_all) | exact cut_ok (by omega) | exact or_ok (idx_ok (by omega)) | (refine or1 (fun hz => pre_ok (by simp at hz; omega) (by omega) (by omega))) | exact pre_ok (by omega) (by omega) (by omega) | (simp_all [idxOk, cutOk, leB]; done) | (simp_all [idxOk, cutOk, leB]; omega) | (simp [idxOk, cutOk, leB] at *; omega) | (have hf0 := h_x0.1; simp only [leB, decide_eq_true_eq, List.length_append, List.length_cons, List.length_nil]; omega)) (StE.ifh (fun hc1 => (StE.ret _)) (fun hc1 => StE.next)))) (fun j hj => by
 simp only [spec_l4Of.l0.eq_2]
 exact Evt.f (ge_lt hj) (Evt.self _))) (fun _ => rfl) (Evt.self _))
def spec_l2Copy_v (x0 : Rule) : Rule := (⟨([] : List Int) ++ x0.fKeys, x0.fNeed, x0.fAfter⟩ : Rule)
theorem spec_l2Copy_ev (x0 : Rule) (h_x0 : smRule x0) : Evt (fun k => spec_l2Copy.f k x0) (spec_l2Copy_v x0) :=
 (Evt.chk (by first | exact idx_ok (by omega) | exact idx_ok (by have hq := len_eq (by assumption); omega) | exact idx_found (by simp_all) | exact cut_ok (by omega) | exact or_ok (idx_ok (by omega)) | (refine or1 (fun hz => pre_ok (by simp at hz; omega) (by omega) (by omega))) | exact pre_ok (by omega) (by omega) (by omega) | (simp_all [idxOk, cutOk, leB]; done) | (simp_all [idxOk, cutOk, leB]; omega) | (simp [idxOk, cutOk, leB] at *; omega) | (have hf0 := h_x0.1.1; simp only [leB, decide_eq_true_eq, List.length_append, List.length_cons, List.length_nil]; omega)) (Evt.self _))
def spec_l4Copy_v (x0 : List Coin) : (List Coin) := ((List.range' 0 (x0.length - 0)).foldl (fun ac1 (i0 : Nat) => ((ac1 ++ ([(⟨(gt x0 (i0 : Int)).fRef, (⟨(gt x0 (i0 : Int)).fOut.fValue, (spec_l2Copy_v ((gt x0 (i0 : Int)).fOut.fRule))⟩ : Out), (gt x0 (i0 : Int)).fHeight, (gt x0 (i0 : Int)).fMined⟩ : Coin)] : List Coin)))) ([] : List Coin))
theorem spec_l4Copy_ev (x0 : List Coin) (h_x0 : (Lm smCoin) x0) : Evt (fun k => spec_l4Copy.f k x0) (spec_l4Copy_v x0) :=
 (Evt.bind (Evt.gatherL (L := (fun k ac i => spec_l4Copy.l0 x0 k ac i)) x0.length (by have := h_x0; first | (have := this.1; omega) | omega) (fun ac1 (i0 : Nat) => ((ac1 ++ ([(⟨(gt x0 (i0 : Int)).fRef, (⟨(gt x0 (i0 : Int)).fOut.fValue, (spec_l2Copy_v ((gt x0 (i0 : Int)).fOut.fRule))⟩ : Out), (gt x0 (i0 : Int)).fHeight, (gt x0 (i0 : Int)).fMined⟩ : Coin)] : List Coin)))) (fun i0 hi1 ac1 hgl => (by first | (simp only [List.length_append, List.length_cons, List.length_nil]; omega) | omega)) (fun i0 hi1 ac1 hgl o hg => by
 have hbn : x0.length ≤ 1048576 := (by have := h_x0; first | (have := this.1; omega) | omega)
 simp only [spec_l4Copy.l0.eq_2]
 exact Evt.t (int_lt hi1) (Evt.chk (by first | (simp only [leB, decide_eq_true_eq, List.length_append, List.length_cons, List.length_nil]; omega) | exact idx_ok (by omega) | exact idx_ok (by have hq := len_eq (by assumption); omega) | exact idx_found (by simp_all) | exact cut_ok (by omega) | exact or_ok (idx_ok (by omega)) | (refine or1 (fun hz => pre_ok (by simp at hz; omega) (by omega) (by omega))) | exact pre_ok (by omega) (by omega) (by omega) | (simp_all [idxOk, cutOk, leB]; done) | (simp_all [idxOk, cutOk, leB]; omega) | (simp [idxOk, cutOk, leB] at *; omega) | (have hf0 := h_x0.1; simp only [leB, decide_eq_true_eq, List.length_append, List.length_cons, List.length_nil]; omega)) (Evt.bind (spec_l2Copy_ev ((gt x0 (i0 : Int)).fOut.fRule) ((((h_x0).2 _ (gt_mem (by first | omega | (have hq := len_eq (by assumption); omega) | (have hf0 := h_x0.1; simp only [leB, decide_eq_true_eq, List.length_append, List.length_cons, List.length_nil]; omega)))).2.1).2)) (Evt.chk (by first | (simp only [leB, decide_eq_true_eq, List.length_append, List.length_cons, List.length_nil]; omega) | exact idx_ok (by omega) | exact idx_ok (by have hq := len_eq (by assumption); omega) | exact idx_found (by simp_all) | exact cut_ok (by omega) | exact or_ok (idx_ok (by omega)) | (refine or1 (fun hz => pre_ok (by simp at hz; omega) (by omega) (by omega))) | exact pre_ok (by omega) (by omega) (by omega) | (simp_all [idxOk, cutOk, leB]; done) | (simp_all [idxOk, cutOk, leB]; omega) | (simp [idxOk, cutOk, leB] at *; omega) | (have hf0 := h_x0.1; simp only [leB, decide_eq_true_eq, List.length_append, List.length_cons, List.length_nil]; omega)) hg)))) (fun j ac hj => by
 simp only [spec_l4Copy.l0.eq_2]
 exact Evt.f (ge_lt hj) (Evt.self _))) (Evt.self _))
theorem l2Copy_id (r : Rule) : spec_l2Copy_v r = r := by simp [spec_l2Copy_v]
theorem l4Copy_id (x0 : List Coin) : spec_l4Copy_v x0 = x0 := by
 have h := range_foldl x0 (fun ac (x : Coin) => ac ++ [(⟨x.fRef, ⟨x.fOut.fValue, spec_l2Copy_v x.fOut.fRule⟩, x.fHeight, x.fMined⟩ : Coin)]) []
 refine Eq.trans h ?_
 rw [fold_map]
 simp only [l2Copy_id]
 simp
def addN (l : List Coin) (r : Ref) : Nat := (l.takeWhile fun c => spec_l4Ahead_v c.fRef r).length
def spec_l4Add_v (l : List Coin) (x : Coin) : List Coin := l.take (addN l x.fRef) ++ [x] ++ l.drop (addN l x.fRef)
theorem addN_le (l : List Coin) (r : Ref) : addN l r ≤ l.length := (List.takeWhile_sublist _).length_le
theorem l4Add_loop (x0 : List Coin) (x1 : Coin) (hn : x0.length ≤ 100000000) : ∀ (suf pre : List Coin), x0 = pre ++ suf → Evt (fun k => spec_l4Add.l0 x0 x1 k (pre.length : Int)) ((pre.length + addN suf x1.fRef : Nat) : Int)
 | [], pre, h => by
  have hl : x0.length = pre.length := by rw [h]; simp
  have e : decide ((pre.length : Int) < (x0.length : Int)) = false := ge_lt (by omega)
  refine Evt.s ?_
  simp only [spec_l4Add.l0.eq_2, e]
  exact Evt.chk rfl (Evt.bind (Evt.f rfl (Evt.self _)) (Evt.f rfl (Evt.self _)))
 | c :: suf, pre, h => by
  have hl : x0.length = pre.length + (suf.length + 1) := by rw [h]; simp
  have hlt : pre.length < x0.length := by omega
  have hg : gt x0 (pre.length : Int) = c := by
   rw [gt_eq (by simpa using hlt)]
   simp only [Int.toNat_natCast, h]
   rw [List.getElem_append_right (Nat.le_refl _)]
   simp
  refine Evt.s ?_
  simp only [spec_l4Add.l0.eq_2, hg, int_lt hlt]
  refine Evt.chk (or_ok (idx_ok hlt)) (Evt.bind (Evt.t rfl (spec_l4Ahead_ev c.fRef x1.fRef)) ?_)
  cases hc : spec_l4Ahead_v c.fRef x1.fRef
  ·refine Evt.f rfl (Evt.ret ?_)
   unfold addN
   rw [List.takeWhile_cons, hc]; simp
  ·refine Evt.t rfl ?_
   rw [w64 hlt (by omega)]
   have := l4Add_loop x0 x1 hn suf (pre ++ [c]) (by rw [h]; simp)
   rw [List.length_append, List.length_cons, List.length_nil] at this
   refine this.to ?_
   unfold addN
   rw [List.takeWhile_cons, hc]
   simp only [if_true, List.length_cons]
   congr 1; omega
theorem l4Add_ev (x0 : List Coin) (x1 : Coin) (hn : x0.length ≤ 100000000) : Evt (fun k => spec_l4Add.f k x0 x1) (spec_l4Add_v x0 x1) := by
 have h := l4Add_loop x0 x1 hn x0 [] rfl
 simp only [List.length_nil, Nat.zero_add] at h
 have hle := addN_le x0 x1.fRef
 refine Evt.bind h (Evt.chk (cut_ok hle) (Evt.chk (leB_of (by simp; omega)) (Evt.chk (cut_ok hle) (Evt.chk (leB_of (by simp; omega)) (Evt.chk (leB_of (by simp; omega)) (Evt.chk (decide_eq_true (Nat.le_refl _)) (Evt.ret ?_)))))))
 unfold spec_l4Add_v
 simp only [Int.toNat_natCast]
theorem l4Add_nil (x : Coin) : spec_l4Add_v [] x = [x] := rfl
theorem l4Add_cons (c : Coin) (l : List Coin) (x : Coin) : spec_l4Add_v (c :: l) x = if spec_l4Ahead_v c.fRef x.fRef = true then c :: spec_l4Add_v l x else x :: c :: l := by
 unfold spec_l4Add_v addN
 rw [List.takeWhile_cons]
 by_cases h : spec_l4Ahead_v c.fRef x.fRef = true
 ·rw [if_pos h, if_pos h]; simp
 ·rw [if_neg h, if_neg h]; simp
theorem l4Add_perm (x : Coin) : ∀ l : List Coin, (spec_l4Add_v l x).Perm (l ++ [x])
 | [] => .refl _
 | c :: l => by
  rw [l4Add_cons]
  split
  ·exact (l4Add_perm x l).cons c
  ·exact (List.perm_append_singleton x (c :: l)).symm
def newAt (x1 x3 : Int) (x4 : Bool) (x2 : List Out) (i : Nat) : Coin := ⟨⟨x1, (i : Int)⟩, gt x2 (i : Int), x3, x4⟩
def news (x1 x3 : Int) (x4 : Bool) (x2 : List Out) : List Coin := (List.range' 0 x2.length).map (newAt x1 x3 x4 x2)
def spec_l4Put_v (x0 : List Coin) (x1 : Int) (x2 : List Out) (x3 : Int) (x4 : Bool) : List Coin := (List.range' 0 x2.length).foldl (fun ac i => spec_l4Add_v ac (newAt x1 x3 x4 x2 i)) x0
theorem l4Add_len (l : List Coin) (x : Coin) : (spec_l4Add_v l x).length = l.length + 1 := by rw [(l4Add_perm x l).length_eq]; simp
theorem l4Put_loop (x1 x3 : Int) (x4 : Bool) (x2 : List Out) (h_x2 : Lm smOut x2) : ∀ (d i : Nat) (ac : List Coin), i + d = x2.length → ac.length + d ≤ 10000000 → Evt (fun k => spec_l4Put.l0 x1 x2 x3 x4 k ac (i : Int)) ((List.range' i d).foldl (fun ac i => spec_l4Add_v ac (newAt x1 x3 x4 x2 i)) ac)
 | 0, i, ac, hi, ha => by
  refine Evt.s ?_
  simp only [spec_l4Put.l0.eq_2]
  exact Evt.f (ge_lt (by omega)) (Evt.self _)
 | d + 1, i, ac, hi, ha => by
  have hlt : i < x2.length := by omega
  have hn := h_x2.1
  have hm := (h_x2.2 _ (gt_mem hlt)).2
  refine Evt.s ?_
  simp only [spec_l4Put.l0.eq_2]
  refine Evt.t (int_lt hlt) (Evt.chk (idx_ok hlt) (Evt.chk (idx_ok hlt) (Evt.bind (spec_l2Copy_ev _ hm) (Evt.bind (l4Add_ev _ _ (by omega)) ?_))))
  rw [w64 hlt (by omega), l2Copy_id]
  rw [List.range'_succ, List.foldl_cons]
  exact l4Put_loop x1 x3 x4 x2 h_x2 d (i + 1) _ (by omega) (by rw [l4Add_len]; omega)
theorem spec_l4Put_ev (x0 : List Coin) (x1 : Int) (x2 : List Out) (x3 : Int) (x4 : Bool) (h_x0 : Lm smCoin x0) (h_x2 : Lm smOut x2) : Evt (fun k => spec_l4Put.f k x0 x1 x2 x3 x4) (spec_l4Put_v x0 x1 x2 x3 x4) := by
 have h1 := h_x0.1
 have h2 := h_x2.1
 have e := spec_l4Copy_ev x0 h_x0
 rw [l4Copy_id] at e
 exact Evt.bind e (Evt.bind (l4Put_loop x1 x3 x4 x2 h_x2 x2.length 0 x0 (by omega) (by omega)) (Evt.self _))
theorem l4Put_perm (x1 x3 : Int) (x4 : Bool) (x2 : List Out) : ∀ (is : List Nat) (ac : List Coin), (is.foldl (fun ac i => spec_l4Add_v ac (newAt x1 x3 x4 x2 i)) ac).Perm (ac ++ is.map (newAt x1 x3 x4 x2))
 | [], ac => by simp
 | i :: is, ac => by
  rw [List.foldl_cons, List.map_cons]
  refine (l4Put_perm x1 x3 x4 x2 is _).trans ?_
  have := (l4Add_perm (newAt x1 x3 x4 x2 i) ac).append_right (is.map (newAt x1 x3 x4 x2))
  simpa using this
def spec_PutCoins_v (x0 : List Coin) (x1 : Int) (x2 : List Out) (x3 : Int) (x4 : Bool) : CoinsResult := (bif ((spec_l4Fault_v x0) != 0) then (⟨(spec_l4Fault_v x0), ([] : List Coin)⟩ : CoinsResult) else (bif ((!(spec_l1In_v x1 1 60)) || (!(bif (!(!(spec_l1In_v x1 1 60))) then (spec_l2Height_v x3) else default))) then (⟨3, ([] : List Coin)⟩ : CoinsResult) else (bif (decide (4 < (x2.length : Int))) then (⟨2, ([] : List Coin)⟩ : CoinsResult) else (onO ((List.range' 0 (x2.length - 0)).findSome? (fun (i0 : Nat) => (bif ((spec_l4Out_v (gt x2 (i0 : Int))) != 0) then (some (⟨(spec_l4Out_v (gt x2 (i0 : Int))), ([] : List Coin)⟩ : CoinsResult)) else none))) (fun r => r) (bif (spec_l4Of_v x0 x1) then (⟨7, ([] : List Coin)⟩ : CoinsResult) else (bif (decide (40 < (wrap64 ((x0.length : Int) + (x2.length : Int))))) then (⟨2, ([] : List Coin)⟩ : CoinsResult) else (⟨0, (spec_l4Put_v x0 x1 x2 x3 x4)⟩ : CoinsResult)))))))
theorem spec_PutCoins_ev (x0 : List Coin) (x1 : Int) (x2 : List Out) (x3 : Int) (x4 : Bool) (h_x0 : (Lm smCoin) x0) (h_x2 : (Lm smOut) x2) : Evt (fun k => spec_PutCoins.f k x0 x1 x2 x3 x4) (spec_PutCoins_v x0 x1 x2 x3 x4) :=
 (Evt.bind (spec_l4Fault_ev x0 (h_x0)) (Evt.ifh (fun hc6 => (Evt.self _)) (fun hc6 => (Evt.bind (spec_l1In_ev x1 1 60) (Evt.bind (Evt.ifh (fun _ => (spec_l2Height_ev x3)) (fun _ => Evt.self _)) (Evt.ifh (fun hc5 => (Evt.self _)) (fun hc5 => (Evt.ifh (fun hc4 => (Evt.self _)) (fun hc4 => (Evt.loop (r' := fun r => r) (Evt.srch (L := (fun k i => spec_PutCoins.l0 x2 k i)) 0 x2.length (by have := h_x2; first | (have := this.1; omega) | omega) (fun (i0 : Nat) => (bif ((spec_l4Out_v (gt x2 (i0 : Int))) != 0) then (some (⟨(spec_l4Out_v (gt x2 (i0 : Int))), ([] : List Coin)⟩ : CoinsResult)) else none)) (fun i0 hs2 hi2 => by
 have hbn : x2.length ≤ 9223372036854775807 := (by have := h_x2; first | (have := this.1; omega) | omega)
 simp only [spec_PutCoins.l0.eq_2]
 exact Evt_t2 (int_lt hi2) (StE.chk (by first | exact idx_ok (by omega) | exact idx_ok (by have hq := len_eq (by assumption); omega) | exact idx_found (show (0 : Int) ≤ (i0 : Int) by simp_all) | exact cut_ok (by omega) | exact or_ok (idx_ok (by omega)) | (refine or1 (fun hz => pre_ok (by simp at hz; omega) (by omega) (by omega))) | exact pre_ok (by omega) (by omega) (by omega) | (simp_all [idxOk, cutOk, leB]; done) | (simp_all [idxOk, cutOk, leB]; omega) | (simp [idxOk, cutOk, leB] at *; omega) | (have hf0 := h_x0.1; have hf1 := h_x2.1; simp only [leB, decide_eq_true_eq, List.length_append, List.length_cons, List.length_nil]; omega)) (StE.bind (spec_l4Out_ev (gt x2 (i0 : Int)) ((h_x2).2 _ (gt_mem (by first | omega | (have hq := len_eq (by assumption); omega) | (have hf0 := h_x0.1; have hf1 := h_x2.1; simp only [leB, decide_eq_true_eq, List.length_append, List.length_cons, List.length_nil]; omega))))) (StE.ifh (fun hc1 => (StE.ret _)) (fun hc1 => StE.next))))) (fun j hj => by
 simp only [spec_PutCoins.l0.eq_2]
 exact Evt.f (ge_lt hj) (Evt.self _))) (fun _ => rfl) (Evt.bind (spec_l4Of_ev x0 x1 (h_x0)) (Evt.ifh (fun hc3 => (Evt.self _)) (fun hc3 => (Evt.ifh (fun hc2 => (Evt.self _)) (fun hc2 => (Evt.bind (spec_l4Put_ev x0 x1 x2 x3 x4 (h_x0) (h_x2)) (Evt.self _)))))))))))))))))
def impl_hasTx_1_v (x0 : Coin) (x1 : Int) : Bool := (x0.fRef.fTx == x1)
theorem impl_hasTx_1_ev (x0 : Coin) (x1 : Int) (h_x0 : smCoin x0) : Evt (fun k => impl_hasTx_1.f k x0 x1) (impl_hasTx_1_v x0 x1) :=
 (Evt.self _)
def slices_IndexFunc_impl_Coin_v (x0 : List Coin) (x1_0 : Int) : Int := (onO ((List.range' 0 (x0.length - 0)).findSome? (fun (i0 : Nat) => (bif (impl_hasTx_1_v (gt x0 (i0 : Int)) x1_0) then (some (i0 : Int)) else none))) (fun r => r) (-1))
theorem slices_IndexFunc_impl_Coin_ev (x0 : List Coin) (x1_0 : Int) (h_x0 : (Lm smCoin) x0) : Evt (fun k => slices_IndexFunc_impl_Coin.f k x0 x1_0) (slices_IndexFunc_impl_Coin_v x0 x1_0) :=
 (Evt.loop (r' := fun r => r) (Evt.srch (L := (fun k i => slices_IndexFunc_impl_Coin.l0 x0 x1_0 k i)) 0 x0.length (by have := h_x0; first | (have := this.1; omega) | omega) (fun (i0 : Nat) => (bif (impl_hasTx_1_v (gt x0 (i0 : Int)) x1_0) then (some (i0 : Int)) else none)) (fun i0 hs2 hi2 => by
 have hbn : x0.length ≤ 9223372036854775807 := (by have := h_x0; first | (have := this.1; omega) | omega)
 simp only [slices_IndexFunc_impl_Coin.l0.eq_2]
 exact Evt_t2 (int_lt hi2) (StE.chk (by first | exact idx_ok (by omega) | exact idx_ok (by have hq := len_eq (by assumption); omega) | exact idx_found (show (0 : Int) ≤ (i0 : Int) by simp_all) | exact cut_ok (by omega) | exact or_ok (idx_ok (by omega)) | (refine or1 (fun hz => pre_ok (by simp at hz; omega) (by omega) (by omega))) | exact pre_ok (by omega) (by omega) (by omega) | (simp_all [idxOk, cutOk, leB]; done) | (simp_all [idxOk, cutOk, leB]; omega) | (simp [idxOk, cutOk, leB] at *; omega) | (have hf0 := h_x0.1; simp only [leB, decide_eq_true_eq, List.length_append, List.length_cons, List.length_nil]; omega)) (StE.bind (impl_hasTx_1_ev (gt x0 (i0 : Int)) x1_0 ((h_x0).2 _ (gt_mem (by first | omega | (have hq := len_eq (by assumption); omega) | (have hf0 := h_x0.1; simp only [leB, decide_eq_true_eq, List.length_append, List.length_cons, List.length_nil]; omega))))) (StE.ifh (fun hc1 => (StE.ret _)) (fun hc1 => StE.next))))) (fun j hj => by
 simp only [slices_IndexFunc_impl_Coin.l0.eq_2]
 exact Evt.f (ge_lt hj) (Evt.self _))) (fun _ => rfl) (Evt.self _))
def slices_ContainsFunc_impl_Coin_v (x0 : List Coin) (x1_0 : Int) : Bool := (decide (0 ≤ (slices_IndexFunc_impl_Coin_v x0 x1_0)))
theorem slices_ContainsFunc_impl_Coin_ev (x0 : List Coin) (x1_0 : Int) (h_x0 : (Lm smCoin) x0) : Evt (fun k => slices_ContainsFunc_impl_Coin.f k x0 x1_0) (slices_ContainsFunc_impl_Coin_v x0 x1_0) :=
 (Evt.bind (slices_IndexFunc_impl_Coin_ev x0 x1_0 (h_x0)) (Evt.self _))
theorem slices_ContainsFunc_impl_Coin_any (x0 : List Coin) (x1_0 : Int) : slices_ContainsFunc_impl_Coin_v x0 x1_0 = (List.range' 0 (x0.length - 0)).any (fun (i0 : Nat) => (impl_hasTx_1_v (gt x0 (i0 : Int)) x1_0)) := idx_any _ _
def impl_hasTx_v (x0 : List Coin) (x1 : Int) : Bool := (slices_ContainsFunc_impl_Coin_v x0 x1)
theorem impl_hasTx_ev (x0 : List Coin) (x1 : Int) (h_x0 : (Lm smCoin) x0) : Evt (fun k => impl_hasTx.f k x0 x1) (impl_hasTx_v x0 x1) :=
 (Evt.bind (slices_ContainsFunc_impl_Coin_ev x0 x1 (h_x0)) (Evt.self _))
def impl_within_v (x0 : Int) (x1 : Int) (x2 : Int) : Bool := ((decide (x1 ≤ x0)) && (decide (x0 ≤ x2)))
theorem impl_within_ev (x0 : Int) (x1 : Int) (x2 : Int)  : Evt (fun k => impl_within.f k x0 x1 x2) (impl_within_v x0 x1 x2) :=
 (Evt.self _)
def impl_isKey_v (x0 : Int) : Bool := (impl_within_v x0 1 999)
theorem impl_isKey_ev (x0 : Int)  : Evt (fun k => impl_isKey.f k x0) (impl_isKey_v x0) :=
 (Evt.bind (impl_within_ev x0 1 999) (Evt.self _))
def impl_areKeys_1_v (x0 : Int) : Bool := (!(impl_isKey_v x0))
theorem impl_areKeys_1_ev (x0 : Int)  : Evt (fun k => impl_areKeys_1.f k x0) (impl_areKeys_1_v x0) :=
 (Evt.bind (impl_isKey_ev x0) (Evt.self _))
def slices_IndexFunc_int64_v (x0 : List Int) : Int := (onO ((List.range' 0 (x0.length - 0)).findSome? (fun (i0 : Nat) => (bif (impl_areKeys_1_v (gt x0 (i0 : Int))) then (some (i0 : Int)) else none))) (fun r => r) (-1))
theorem slices_IndexFunc_int64_ev (x0 : List Int) (h_x0 : (Lm tr) x0) : Evt (fun k => slices_IndexFunc_int64.f k x0) (slices_IndexFunc_int64_v x0) :=
 (Evt.loop (r' := fun r => r) (Evt.srch (L := (fun k i => slices_IndexFunc_int64.l0 x0 k i)) 0 x0.length (by have := h_x0; first | (have := this.1; omega) | omega) (fun (i0 : Nat) => (bif (impl_areKeys_1_v (gt x0 (i0 : Int))) then (some (i0 : Int)) else none)) (fun i0 hs2 hi2 => by
 have hbn : x0.length ≤ 9223372036854775807 := (by have := h_x0; first | (have := this.1; omega) | omega)
 simp only [slices_IndexFunc_int64.l0.eq_2]
 exact Evt_t2 (int_lt hi2) (StE.chk (by first | exact idx_ok (by omega) | exact idx_ok (by have hq := len_eq (by assumption); omega) | exact idx_found (show (0 : Int) ≤ (i0 : Int) by simp_all) | exact cut_ok (by omega) | exact or_ok (idx_ok (by omega)) | (refine or1 (fun hz => pre_ok (by simp at hz; omega) (by omega) (by omega))) | exact pre_ok (by omega) (by omega) (by omega) | (simp_all [idxOk, cutOk, leB]; done) | (simp_all [idxOk, cutOk, leB]; omega) | (simp [idxOk, cutOk, leB] at *; omega) | (have hf0 := h_x0.1; simp only [leB, decide_eq_true_eq, List.length_append, List.length_cons, List.length_nil]; omega)) (StE.bind (impl_areKeys_1_ev (gt x0 (i0 : Int))) (StE.ifh (fun hc1 => (StE.ret _)) (fun hc1 => StE.next))))) (fun j hj => by
 simp only [slices_IndexFunc_int64.l0.eq_2]
 exact Evt.f (ge_lt hj) (Evt.self _))) (fun _ => rfl) (Evt.self _))
def slices_ContainsFunc_int64_v (x0 : List Int) : Bool := (decide (0 ≤ (slices_IndexFunc_int64_v x0)))
theorem slices_ContainsFunc_int64_ev (x0 : List Int) (h_x0 : (Lm tr) x0) : Evt (fun k => slices_ContainsFunc_int64.f k x0) (slices_ContainsFunc_int64_v x0) :=
 (Evt.bind (slices_IndexFunc_int64_ev x0 (h_x0)) (Evt.self _))
theorem slices_ContainsFunc_int64_any (x0 : List Int) : slices_ContainsFunc_int64_v x0 = (List.range' 0 (x0.length - 0)).any (fun (i0 : Nat) => (impl_areKeys_1_v (gt x0 (i0 : Int)))) := idx_any _ _
def impl_areKeys_v (x0 : List Int) : Bool := (!(slices_ContainsFunc_int64_v x0))
theorem impl_areKeys_ev (x0 : List Int) (h_x0 : (Lm tr) x0) : Evt (fun k => impl_areKeys.f k x0) (impl_areKeys_v x0) :=
 (Evt.bind (slices_ContainsFunc_int64_ev x0 (h_x0)) (Evt.self _))
def impl_isHeight_v (x0 : Int) : Bool := (impl_within_v x0 0 999)
theorem impl_isHeight_ev (x0 : Int)  : Evt (fun k => impl_isHeight.f k x0) (impl_isHeight_v x0) :=
 (Evt.bind (impl_within_ev x0 0 999) (Evt.self _))
def impl_isRising_v (x0 : List Int) : Bool := (onO ((List.range' 1 (x0.length - 1)).findSome? (fun (i0 : Nat) => (bif (decide ((gt x0 (i0 : Int)) ≤ (gt x0 (wrap64 ((i0 : Int) - 1))))) then (some false) else none))) (fun r => r) true)
theorem impl_isRising_ev (x0 : List Int) (h_x0 : (Lm tr) x0) : Evt (fun k => impl_isRising.f k x0) (impl_isRising_v x0) :=
 (Evt.loop (r' := fun r => r) (Evt.srch (L := (fun k i => impl_isRising.l0 x0 k i)) 1 x0.length (by have := h_x0; first | (have := this.1; omega) | omega) (fun (i0 : Nat) => (bif (decide ((gt x0 (i0 : Int)) ≤ (gt x0 (wrap64 ((i0 : Int) - 1))))) then (some false) else none)) (fun i0 hs2 hi2 => by
 have hbn : x0.length ≤ 9223372036854775807 := (by have := h_x0; first | (have := this.1; omega) | omega)
 simp only [impl_isRising.l0.eq_2]
 exact Evt_t2 (int_lt hi2) (StE.chk (by first | exact idx_ok (by omega) | exact idx_ok (by have hq := len_eq (by assumption); omega) | exact idx_found (show (0 : Int) ≤ (i0 : Int) by simp_all) | exact cut_ok (by omega) | exact or_ok (idx_ok (by omega)) | (refine or1 (fun hz => pre_ok (by simp at hz; omega) (by omega) (by omega))) | exact pre_ok (by omega) (by omega) (by omega) | (simp_all [idxOk, cutOk, leB]; done) | (simp_all [idxOk, cutOk, leB]; omega) | (simp [idxOk, cutOk, leB] at *; omega) | (have hf0 := h_x0.1; simp only [leB, decide_eq_true_eq, List.length_append, List.length_cons, List.length_nil]; omega)) (StE.chk (by first | exact idx_ok (by omega) | exact idx_ok (by have hq := len_eq (by assumption); omega) | exact idx_found (show (0 : Int) ≤ (wrap64 ((i0 : Int) - 1)) by simp_all) | exact cut_ok (by omega) | exact or_ok (idx_ok (by omega)) | (refine or1 (fun hz => pre_ok (by simp at hz; omega) (by omega) (by omega))) | exact pre_ok (by omega) (by omega) (by omega) | (simp_all [idxOk, cutOk, leB]; done) | (simp_all [idxOk, cutOk, leB]; omega) | (simp [idxOk, cutOk, leB] at *; omega) | (have hf0 := h_x0.1; simp only [leB, decide_eq_true_eq, List.length_append, List.length_cons, List.length_nil]; omega)) (StE.ifh (fun hc1 => (StE.ret _)) (fun hc1 => StE.next))))) (fun j hj => by
 simp only [impl_isRising.l0.eq_2]
 exact Evt.f (ge_lt hj) (Evt.self _))) (fun _ => rfl) (Evt.self _))
def impl_RuleFault_v (x0 : Rule) : Int := (bif !(impl_within_v (x0.fKeys.length : Int) 1 3) then 2 else (bif (((!(impl_areKeys_v x0.fKeys)) || (!(bif (!(!(impl_areKeys_v x0.fKeys))) then (impl_within_v x0.fNeed 1 (x0.fKeys.length : Int)) else default))) || (!(bif (!((!(impl_areKeys_v x0.fKeys)) || (!(bif (!(!(impl_areKeys_v x0.fKeys))) then (impl_within_v x0.fNeed 1 (x0.fKeys.length : Int)) else default)))) then (impl_isHeight_v x0.fAfter) else default))) then 3 else (bif !(impl_isRising_v x0.fKeys) then 1 else 0)))
theorem impl_RuleFault_ev (x0 : Rule) (h_x0 : smRule x0) : Evt (fun k => impl_RuleFault.f k x0) (impl_RuleFault_v x0) :=
 (Evt.bind (impl_within_ev (x0.fKeys.length : Int) 1 3) (Evt.ifh (fun hc2 => (Evt.self _)) (fun hc2 => (Evt.bind (impl_areKeys_ev x0.fKeys (h_x0.1)) (Evt.bind (Evt.ifh (fun _ => (impl_within_ev x0.fNeed 1 (x0.fKeys.length : Int))) (fun _ => Evt.self _)) (Evt.bind (Evt.ifh (fun _ => (impl_isHeight_ev x0.fAfter)) (fun _ => Evt.self _)) (Evt.ifh (fun hc1 => (Evt.self _)) (fun hc1 => (Evt.bind (impl_isRising_ev x0.fKeys (h_x0.1)) (Evt.ifh (fun hc0 => (Evt.self _)) (fun hc0 => (Evt.self _))))))))))))
theorem ruleFault_same (x0 : Rule) : impl_RuleFault_v x0 = spec_l2Fault_v x0 := by
 simp only [impl_RuleFault_v, spec_l2Fault_v, impl_areKeys_v, slices_ContainsFunc_int64_any, impl_areKeys_1_v, impl_isKey_v, spec_l1Key_v, impl_within_v, spec_l1In_v, impl_isHeight_v, spec_l2Height_v, impl_isRising_v, found_any]
 generalize (List.range' 0 (x0.fKeys.length - 0)).any _ = a
 generalize (List.range' 1 (x0.fKeys.length - 1)).any _ = b
 generalize (decide (1 ≤ x0.fNeed) && decide (x0.fNeed ≤ (x0.fKeys.length : Int))) = c
 generalize (decide (0 ≤ x0.fAfter) && decide (x0.fAfter ≤ 999)) = d
 generalize (decide (1 ≤ (x0.fKeys.length : Int)) && decide ((x0.fKeys.length : Int) ≤ 3)) = e
 cases a <;> cases b <;> cases c <;> cases d <;> cases e <;> rfl
def impl_outFault_v (x0 : Out) : Int := (bif !(impl_within_v x0.fValue 1 1000000) then 3 else (impl_RuleFault_v x0.fRule))
theorem impl_outFault_ev (x0 : Out) (h_x0 : smOut x0) : Evt (fun k => impl_outFault.f k x0) (impl_outFault_v x0) :=
 (Evt.bind (impl_within_ev x0.fValue 1 1000000) (Evt.ifh (fun hc0 => (Evt.self _)) (fun hc0 => (Evt.bind (impl_RuleFault_ev x0.fRule (h_x0.2)) (Evt.self _)))))
def impl_isId_v (x0 : Int) : Bool := (impl_within_v x0 1 60)
theorem impl_isId_ev (x0 : Int)  : Evt (fun k => impl_isId.f k x0) (impl_isId_v x0) :=
 (Evt.bind (impl_within_ev x0 1 60) (Evt.self _))
def impl_isRef_v (x0 : Ref) : Bool := ((impl_isId_v x0.fTx) && (bif (impl_isId_v x0.fTx) then (impl_within_v x0.fAt 0 3) else default))
theorem impl_isRef_ev (x0 : Ref)  : Evt (fun k => impl_isRef.f k x0) (impl_isRef_v x0) :=
 (Evt.bind (impl_isId_ev x0.fTx) (Evt.bind (Evt.ifh (fun _ => (impl_within_ev x0.fAt 0 3)) (fun _ => Evt.self _)) (Evt.self _)))
def cmp_isNaN_int64_v (x0 : Int) : Bool := (x0 != x0)
theorem cmp_isNaN_int64_ev (x0 : Int)  : Evt (fun k => cmp_isNaN_int64.f k x0) (cmp_isNaN_int64_v x0) :=
 (Evt.self _)
def cmp_Compare_int64_v (x0 : Int) (x1 : Int) : Int := (bif (cmp_isNaN_int64_v x0) then (bif (cmp_isNaN_int64_v x1) then 0 else (-1)) else (bif (cmp_isNaN_int64_v x1) then 1 else (bif (decide (x0 < x1)) then (-1) else (bif (decide (x1 < x0)) then 1 else 0))))
theorem cmp_Compare_int64_ev (x0 : Int) (x1 : Int)  : Evt (fun k => cmp_Compare_int64.f k x0 x1) (cmp_Compare_int64_v x0 x1) :=
 (Evt.bind (cmp_isNaN_int64_ev x0) (Evt.bind (cmp_isNaN_int64_ev x1) (Evt.ifh (fun hc4 => (Evt.ifh (fun hc0 => (Evt.self _)) (fun hc0 => (Evt.self _)))) (fun hc4 => (Evt.ifh (fun hc3 => (Evt.self _)) (fun hc3 => (Evt.ifh (fun hc2 => (Evt.self _)) (fun hc2 => (Evt.ifh (fun hc1 => (Evt.self _)) (fun hc1 => (Evt.self _)))))))))))
def cmp_Or_int_v (x0 : List Int) : Int := (onO ((List.range' 0 (x0.length - 0)).findSome? (fun (i0 : Nat) => (bif ((gt x0 (i0 : Int)) != 0) then (some (gt x0 (i0 : Int))) else none))) (fun r => r) 0)
theorem cmp_Or_int_ev (x0 : List Int) (h_x0 : (Lm tr) x0) : Evt (fun k => cmp_Or_int.f k x0) (cmp_Or_int_v x0) :=
 (Evt.loop (r' := fun r => r) (Evt.srch (L := (fun k i => cmp_Or_int.l0 x0 k i)) 0 x0.length (by have := h_x0; first | (have := this.1; omega) | omega) (fun (i0 : Nat) => (bif ((gt x0 (i0 : Int)) != 0) then (some (gt x0 (i0 : Int))) else none)) (fun i0 hs2 hi2 => by
 have hbn : x0.length ≤ 9223372036854775807 := (by have := h_x0; first | (have := this.1; omega) | omega)
 simp only [cmp_Or_int.l0.eq_2]
 exact Evt_t2 (int_lt hi2) (StE.chk (by first | exact idx_ok (by omega) | exact idx_ok (by have hq := len_eq (by assumption); omega) | exact idx_found (show (0 : Int) ≤ (i0 : Int) by simp_all) | exact cut_ok (by omega) | exact or_ok (idx_ok (by omega)) | (refine or1 (fun hz => pre_ok (by simp at hz; omega) (by omega) (by omega))) | exact pre_ok (by omega) (by omega) (by omega) | (simp_all [idxOk, cutOk, leB]; done) | (simp_all [idxOk, cutOk, leB]; omega) | (simp [idxOk, cutOk, leB] at *; omega) | (have hf0 := h_x0.1; simp only [leB, decide_eq_true_eq, List.length_append, List.length_cons, List.length_nil]; omega)) (StE.ifh (fun hc1 => (StE.ret _)) (fun hc1 => StE.next)))) (fun j hj => by
 simp only [cmp_Or_int.l0.eq_2]
 exact Evt.f (ge_lt hj) (Evt.self _))) (fun _ => rfl) (Evt.self _))
def impl_compareRefs_v (x0 : Ref) (x1 : Ref) : Int := (cmp_Or_int_v ([(cmp_Compare_int64_v x0.fTx x1.fTx), (cmp_Compare_int64_v x0.fAt x1.fAt)] : List Int))
theorem impl_compareRefs_ev (x0 : Ref) (x1 : Ref)  : Evt (fun k => impl_compareRefs.f k x0 x1) (impl_compareRefs_v x0 x1) :=
 (Evt.bind (cmp_Compare_int64_ev x0.fTx x1.fTx) (Evt.bind (cmp_Compare_int64_ev x0.fAt x1.fAt) (Evt.bind (cmp_Or_int_ev ([(cmp_Compare_int64_v x0.fTx x1.fTx), (cmp_Compare_int64_v x0.fAt x1.fAt)] : List Int) ((⟨by simp, fun _ _ => trivial⟩ : Lm tr ([(cmp_Compare_int64_v x0.fTx x1.fTx), (cmp_Compare_int64_v x0.fAt x1.fAt)] : List Int)))) (Evt.self _))))
def impl_CoinsFault_v (x0 : List Coin) : Int := (bif (decide (40 < (x0.length : Int))) then 2 else (onO ((List.range' 0 (x0.length - 0)).findSome? (fun (i0 : Nat) => (bif (((!(impl_isRef_v ((gt x0 (i0 : Int)).fRef))) || (!(bif (!(!(impl_isRef_v ((gt x0 (i0 : Int)).fRef)))) then (impl_isHeight_v ((gt x0 (i0 : Int)).fHeight)) else default))) || (!(bif (!((!(impl_isRef_v ((gt x0 (i0 : Int)).fRef))) || (!(bif (!(!(impl_isRef_v ((gt x0 (i0 : Int)).fRef)))) then (impl_isHeight_v ((gt x0 (i0 : Int)).fHeight)) else default)))) then (impl_within_v ((gt x0 (i0 : Int)).fOut.fValue) 1 1000000) else default))) then (some 3) else (bif ((impl_RuleFault_v ((gt x0 (i0 : Int)).fOut.fRule)) != 0) then (some (impl_RuleFault_v ((gt x0 (i0 : Int)).fOut.fRule))) else (bif ((decide (0 < (i0 : Int))) && (decide (0 ≤ (bif (decide (0 < (i0 : Int))) then (impl_compareRefs_v ((gt x0 (wrap64 ((i0 : Int) - 1))).fRef) ((gt x0 (i0 : Int)).fRef)) else default)))) then (some 1) else none))))) (fun r => r) 0))
theorem impl_CoinsFault_ev (x0 : List Coin) (h_x0 : (Lm smCoin) x0) : Evt (fun k => impl_CoinsFault.f k x0) (impl_CoinsFault_v x0) :=
 (Evt.ifh (fun hc4 => (Evt.self _)) (fun hc4 => (Evt.loop (r' := fun r => r) (Evt.srch (L := (fun k i => impl_CoinsFault.l0 x0 k i)) 0 x0.length (by have := h_x0; first | (have := this.1; omega) | omega) (fun (i0 : Nat) => (bif (((!(impl_isRef_v ((gt x0 (i0 : Int)).fRef))) || (!(bif (!(!(impl_isRef_v ((gt x0 (i0 : Int)).fRef)))) then (impl_isHeight_v ((gt x0 (i0 : Int)).fHeight)) else default))) || (!(bif (!((!(impl_isRef_v ((gt x0 (i0 : Int)).fRef))) || (!(bif (!(!(impl_isRef_v ((gt x0 (i0 : Int)).fRef)))) then (impl_isHeight_v ((gt x0 (i0 : Int)).fHeight)) else default)))) then (impl_within_v ((gt x0 (i0 : Int)).fOut.fValue) 1 1000000) else default))) then (some 3) else (bif ((impl_RuleFault_v ((gt x0 (i0 : Int)).fOut.fRule)) != 0) then (some (impl_RuleFault_v ((gt x0 (i0 : Int)).fOut.fRule))) else (bif ((decide (0 < (i0 : Int))) && (decide (0 ≤ (bif (decide (0 < (i0 : Int))) then (impl_compareRefs_v ((gt x0 (wrap64 ((i0 : Int) - 1))).fRef) ((gt x0 (i0 : Int)).fRef)) else default)))) then (some 1) else none)))) (fun i0 hs4 hi4 => by
 have hbn : x0.length ≤ 9223372036854775807 := (by have := h_x0; first | (have := this.1; omega) | omega)
 simp only [impl_CoinsFault.l0.eq_2]
 exact Evt_t2 (int_lt hi4) (StE.chk (by first | exact idx_ok (by omega) | exact idx_ok (by have hq := len_eq (by assumption); omega) | exact idx_found (show (0 : Int) ≤ (i0 : Int) by simp_all) | exact cut_ok (by omega) | exact or_ok (idx_ok (by omega)) | (refine or1 (fun hz => pre_ok (by simp at hz; omega) (by omega) (by omega))) | exact pre_ok (by omega) (by omega) (by omega) | (simp_all [idxOk, cutOk, leB]; done) | (simp_all [idxOk, cutOk, leB]; omega) | (simp [idxOk, cutOk, leB] at *; omega) | (have hf0 := h_x0.1; simp only [leB, decide_eq_true_eq, List.length_append, List.length_cons, List.length_nil]; omega)) (StE.bind (impl_isRef_ev ((gt x0 (i0 : Int)).fRef)) (StE.bind (Evt.ifh (fun _ => (impl_isHeight_ev ((gt x0 (i0 : Int)).fHeight))) (fun _ => Evt.self _)) (StE.bind (Evt.ifh (fun _ => (impl_within_ev ((gt x0 (i0 : Int)).fOut.fValue) 1 1000000)) (fun _ => Evt.self _)) (StE.ifh (fun hc3 => (StE.ret _)) (fun hc3 => (StE.bind (impl_RuleFault_ev ((gt x0 (i0 : Int)).fOut.fRule) ((((h_x0).2 _ (gt_mem (by first | omega | (have hq := len_eq (by assumption); omega) | (have hf0 := h_x0.1; simp only [leB, decide_eq_true_eq, List.length_append, List.length_cons, List.length_nil]; omega)))).2.1).2)) (StE.ifh (fun hc2 => (StE.ret _)) (fun hc2 => (StE.chk (by first | exact idx_ok (by omega) | exact idx_ok (by have hq := len_eq (by assumption); omega) | exact idx_found (by simp_all) | exact cut_ok (by omega) | exact or_ok (idx_ok (by omega)) | (refine or1 (fun hz => pre_ok (by simp at hz; omega) (by omega) (by omega))) | exact pre_ok (by omega) (by omega) (by omega) | (simp_all [idxOk, cutOk, leB]; done) | (simp_all [idxOk, cutOk, leB]; omega) | (simp [idxOk, cutOk, leB] at *; omega) | (have hf0 := h_x0.1; simp only [leB, decide_eq_true_eq, List.length_append, List.length_cons, List.length_nil]; omega)) (StE.bind (Evt.ifh (fun _ => (impl_compareRefs_ev ((gt x0 (wrap64 ((i0 : Int) - 1))).fRef) ((gt x0 (i0 : Int)).fRef))) (fun _ => Evt.self _)) (StE.ifh (fun hc1 => (StE.ret _)) (fun hc1 => StE.next)))))))))))))) (fun j hj => by
 simp only [impl_CoinsFault.l0.eq_2]
 exact Evt.f (ge_lt hj) (Evt.self _))) (fun _ => rfl) (Evt.self _))))
theorem refs_same (r : Ref) : impl_isRef_v r = spec_l3Ref_v r := by simp only [impl_isRef_v, spec_l3Ref_v, impl_isId_v, impl_within_v, spec_l1In_v]
theorem or_two (p q : Int) : cmp_Or_int_v ([p, q] : List Int) = bif p != 0 then p else bif q != 0 then q else 0 := by
 show onO (([0, 1] : List Nat).findSome? fun i : Nat => bif (gt [p, q] (i : Int)) != 0 then some (gt [p, q] (i : Int)) else none) (fun r => r) 0 = _
 have e0 : gt [p, q] ((0 : Nat) : Int) = p := rfl
 have e1 : gt [p, q] ((1 : Nat) : Int) = q := rfl
 rw [List.findSome?_cons, List.findSome?_cons, List.findSome?_nil, e0, e1]
 cases (p != 0) <;> cases (q != 0) <;> rfl
theorem compare_eq (a b : Int) : cmp_Compare_int64_v a b = bif decide (a < b) then -1 else bif decide (b < a) then 1 else 0 := by
 have e : ∀ x : Int, cmp_isNaN_int64_v x = false := fun x => by simp [cmp_isNaN_int64_v]
 simp only [cmp_Compare_int64_v, e]; rfl
theorem ahead_eq (a b : Ref) : decide (0 ≤ impl_compareRefs_v a b) = !(spec_l4Ahead_v a b) := by
 have e : impl_compareRefs_v a b = bif (cmp_Compare_int64_v a.fTx b.fTx) != 0 then cmp_Compare_int64_v a.fTx b.fTx else bif (cmp_Compare_int64_v a.fAt b.fAt) != 0 then cmp_Compare_int64_v a.fAt b.fAt else 0 := or_two _ _
 rw [e, compare_eq, compare_eq]
 unfold spec_l4Ahead_v
 by_cases h1 : a.fTx < b.fTx
 ·have h2 : ¬ a.fTx = b.fTx := by omega
  simp [h1, h2]
 ·by_cases h2 : b.fTx < a.fTx
  ·have h3 : ¬ a.fTx = b.fTx := by omega
   simp [h1, h2, h3]
  ·have h3 : a.fTx = b.fTx := by omega
   by_cases h4 : a.fAt < b.fAt
   ·simp [h3, h4]
   ·by_cases h5 : b.fAt < a.fAt
    ·simp [h3, h4, h5]
    ·simp [h3, h4, h5]
theorem coinsFault_same (x0 : List Coin) : impl_CoinsFault_v x0 = spec_l4Fault_v x0 := by
 unfold impl_CoinsFault_v spec_l4Fault_v
 congr 2
 refine fs_congr fun i hi => ?_
 simp only [refs_same, ruleFault_same, spec_l4Out_v]
 have e1 : ∀ n a b : Int, impl_within_v n a b = spec_l1In_v n a b := fun _ _ _ => rfl
 have e2 : ∀ n : Int, impl_isHeight_v n = spec_l2Height_v n := fun _ => rfl
 have e3 : (decide (0 < (i : Int)) && decide (0 ≤ (bif decide (0 < (i : Int)) then impl_compareRefs_v (gt x0 (wrap64 ((i : Int) - 1))).fRef (gt x0 (i : Int)).fRef else default))) =
   (decide (0 < (i : Int)) && !(bif decide (0 < (i : Int)) then spec_l4Ahead_v (gt x0 (wrap64 ((i : Int) - 1))).fRef (gt x0 (i : Int)).fRef else default)) := by
  cases decide (0 < (i : Int))
  ·rfl
  ·exact ahead_eq _ _
 rw [e3]
 simp only [e1, e2]
 generalize (decide (0 < (i : Int)) && !(bif decide (0 < (i : Int)) then spec_l4Ahead_v (gt x0 (wrap64 ((i : Int) - 1))).fRef (gt x0 (i : Int)).fRef else default)) = z
 generalize spec_l3Ref_v (gt x0 (i : Int)).fRef = a
 generalize spec_l2Height_v (gt x0 (i : Int)).fHeight = b
 generalize spec_l1In_v (gt x0 (i : Int)).fOut.fValue 1 1000000 = c
 cases a <;> cases b <;> cases c <;> rfl
def lexL (a b : Ref) : Prop := a.fTx < b.fTx ∨ a.fTx = b.fTx ∧ a.fAt < b.fAt
theorem risingR {R : Nat → Nat → Prop} (n : Nat) (tr : ∀ a b c, c < n → R a b → R b c → R a c) (h : ∀ i, i + 1 < n → R i (i + 1)) : ∀ d a, a + d + 1 < n → R a (a + d + 1)
 | 0, a, hb => h a hb
 | d + 1, a, hb => tr _ _ _ hb (risingR n tr h d a (by omega)) (h (a + d + 1) hb)
theorem compareRefs_lt (a b : Ref) : impl_compareRefs_v a b < 0 ↔ lexL a b := by
 have e : impl_compareRefs_v a b = bif (cmp_Compare_int64_v a.fTx b.fTx) != 0 then cmp_Compare_int64_v a.fTx b.fTx else bif (cmp_Compare_int64_v a.fAt b.fAt) != 0 then cmp_Compare_int64_v a.fAt b.fAt else 0 := or_two _ _
 rw [e, compare_eq, compare_eq]
 unfold lexL
 by_cases h1 : a.fTx < b.fTx
 ·simp [h1]
 ·by_cases h2 : b.fTx < a.fTx
  ·simp [h1, h2]; omega
  ·have h3 : a.fTx = b.fTx := by omega
   by_cases h4 : a.fAt < b.fAt
   ·simp [h3, h4]
   ·by_cases h5 : b.fAt < a.fAt
    ·simp [h3, h4, h5]
    ·simp [h3, h4, h5]
theorem compareRefs_zero (a b : Ref) : impl_compareRefs_v a b = 0 ↔ a.fTx = b.fTx ∧ a.fAt = b.fAt := by
 have e : impl_compareRefs_v a b = bif (cmp_Compare_int64_v a.fTx b.fTx) != 0 then cmp_Compare_int64_v a.fTx b.fTx else bif (cmp_Compare_int64_v a.fAt b.fAt) != 0 then cmp_Compare_int64_v a.fAt b.fAt else 0 := or_two _ _
 rw [e, compare_eq, compare_eq]
 by_cases h1 : a.fTx < b.fTx
 ·simp [h1]; omega
 ·by_cases h2 : b.fTx < a.fTx
  ·simp [h1, h2]; omega
  ·have h3 : a.fTx = b.fTx := by omega
   by_cases h4 : a.fAt < b.fAt
   ·simp [h3, h4]; omega
   ·by_cases h5 : b.fAt < a.fAt
    ·simp [h3, h4, h5]; omega
    ·have h6 : a.fAt = b.fAt := by omega
     simp [h3, h6]
theorem ahead_lex (a b : Ref) : spec_l4Ahead_v a b = true ↔ lexL a b := by
 unfold spec_l4Ahead_v lexL
 by_cases h : a.fTx = b.fTx
 ·simp [h]
 ·have h2 : (a.fTx != b.fTx) = true := by simp [h]
  rw [h2]; simp; omega
theorem three_ne (a : Bool) (q : Int) (b : Bool) : (bif a then some (3 : Int) else bif q != 0 then some q else bif b then some 1 else none) ≠ some 0 := by
 cases a
 ·cases hq : q != 0
  ·cases b <;> simp
  ·simp at hq; simpa using hq
 ·simp
theorem three_none {a : Bool} {q : Int} {b : Bool} (h : (bif a then some (3 : Int) else bif q != 0 then some q else bif b then some 1 else none) = none) : b = false := by
 cases a
 ·cases hq : q != 0
  ·rw [hq] at h; cases b
   ·rfl
   ·cases h
  ·rw [hq] at h; cases h
 ·cases h
theorem coins_step (x0 : List Coin) (hl : x0.length ≤ 1048576) (h : spec_l4Fault_v x0 = 0) : ∀ i, i + 1 < x0.length → lexL (gt x0 (i : Int)).fRef (gt x0 ((i + 1 : Nat) : Int)).fRef := by
 intro i hi
 unfold spec_l4Fault_v at h
 cases hc : decide (40 < (x0.length : Int))
 ·rw [hc] at h
  obtain ⟨h1, _⟩ := onO_zero h (fun i => three_ne _ _ _)
  have h2 := three_none (fs_all h1 (i + 1) hi)
  have e : wrap64 (((i + 1 : Nat) : Int) - 1) = (i : Int) := by have := wrap64_in (((i + 1 : Nat) : Int) - 1) (by omega); rw [this]; omega
  have e2 : decide (0 < ((i + 1 : Nat) : Int)) = true := decide_eq_true (by omega)
  rw [e, e2] at h2
  rw [← ahead_lex]
  cases hq : spec_l4Ahead_v (gt x0 (i : Int)).fRef (gt x0 ((i + 1 : Nat) : Int)).fRef
  ·rw [hq] at h2; cases h2
  ·rfl
 ·rw [hc] at h; exact absurd (show (2 : Int) = 0 from h) (by decide)
theorem lex_trans {a b c : Ref} (h : lexL a b) (k : lexL b c) : lexL a c := by unfold lexL at *; omega
theorem coins_lt (x0 : List Coin) (hl : x0.length ≤ 1048576) (h : spec_l4Fault_v x0 = 0) (a b : Nat) (hab : a < b) (hb : b < x0.length) : lexL (gt x0 (a : Int)).fRef (gt x0 (b : Int)).fRef := by
 have := risingR (R := fun a b => lexL (gt x0 (a : Int)).fRef (gt x0 (b : Int)).fRef) x0.length (fun a b c _ h k => lex_trans h k) (coins_step x0 hl h) (b - a - 1) a (by omega)
 have e : a + (b - a - 1) + 1 = b := by omega
 rw [e] at this
 exact this
def Rise (xs : List Coin) : Prop := xs.length ≤ 1048576 ∧ xs.Pairwise fun a b => lexL a.fRef b.fRef
theorem Rise.lt {xs : List Coin} (h : Rise xs) (a b : Nat) (hab : a < b) (hb : b < xs.length) : lexL (gt xs (a : Int)).fRef (gt xs (b : Int)).fRef := by
 rw [gt_eq (by simp; omega), gt_eq (by simpa using hb)]
 exact (List.pairwise_iff_getElem.1 h.2) _ _ _ _ (by simpa using hab)
theorem Rise.of {xs : List Coin} (hl : xs.length ≤ 1048576) (h : ∀ a b : Nat, a < b → b < xs.length → lexL (gt xs (a : Int)).fRef (gt xs (b : Int)).fRef) : Rise xs := by
 refine ⟨hl, List.pairwise_iff_getElem.2 fun i j hi hj hij => ?_⟩
 have := h i j hij hj
 rw [gt_eq (by simpa using hi), gt_eq (by simpa using hj)] at this
 simpa using this
theorem Rise.sub {xs ys : List Coin} (h : Rise xs) (s : ys.Sublist xs) : Rise ys := ⟨Nat.le_trans s.length_le h.1, h.2.sublist s⟩
theorem rise_of {x0 : List Coin} (h0 : Lm smCoin x0) (h : spec_l4Fault_v x0 = 0) : Rise x0 := Rise.of h0.1 (coins_lt x0 h0.1 h)
theorem fault_len {x0 : List Coin} (h : spec_l4Fault_v x0 = 0) : x0.length ≤ 40 := by
 unfold spec_l4Fault_v at h
 by_cases hc : x0.length ≤ 40
 ·exact hc
 ·have : decide (40 < (x0.length : Int)) = true := by simp; omega
  rw [this] at h
  exact absurd (show (2 : Int) = 0 from h) (by decide)
theorem rise_keys {xs : List Coin} (h : xs.Pairwise fun a b => lexL a.fRef b.fRef) : (xs.map refKey).Nodup := by
 unfold List.Nodup
 rw [List.pairwise_map]
 refine h.imp fun {a b} hab e => ?_
 unfold refKey at e
 have e1 := (Prod.mk.inj e).1; have e2 := (Prod.mk.inj e).2
 unfold lexL at hab; omega
theorem lex_le {a b : Coin} (h : lexL a.fRef b.fRef) : refLe a b = true := by
 rw [refLe_iff]; unfold lexL at h; omega
theorem sort_uniq {xs ys : List Coin} (hp : ys.Perm xs) (hr : ys.Pairwise fun a b => lexL a.fRef b.fRef) : xs.mergeSort refLe = ys := by
 have hms : (xs.mergeSort refLe).Pairwise (fun a b => refLe a b = true) := List.pairwise_mergeSort (fun a b c h1 h2 => by rw [refLe_iff] at *; omega) (fun a b => by
  rw [Bool.or_eq_true, refLe_iff, refLe_iff]; omega) xs
 have hpm : (xs.mergeSort refLe).Perm ys := (List.mergeSort_perm xs refLe).trans hp.symm
 refine sorted_uniq hpm hms (hr.imp lex_le) (fun a ha b hb h1 h2 => ?_)
 refine key_inj (rise_keys hr) a (hpm.mem_iff.1 ha) b (hpm.mem_iff.1 hb) ?_
 rw [refLe_iff] at h1 h2
 have e1 : a.fRef.fTx = b.fRef.fTx := by omega
 have e2 : a.fRef.fAt = b.fRef.fAt := by omega
 unfold refKey
 rw [e1, e2]
def slices_Clone_int64_v (x0 : List Int) : (List Int) := (([] : List Int) ++ x0)
theorem slices_Clone_int64_ev (x0 : List Int) (h_x0 : (Lm tr) x0) : Evt (fun k => slices_Clone_int64.f k x0) (slices_Clone_int64_v x0) :=
 (Evt.chk (by first | exact idx_ok (by omega) | exact idx_ok (by have hq := len_eq (by assumption); omega) | exact idx_found (by simp_all) | exact cut_ok (by omega) | exact or_ok (idx_ok (by omega)) | (refine or1 (fun hz => pre_ok (by simp at hz; omega) (by omega) (by omega))) | exact pre_ok (by omega) (by omega) (by omega) | (simp_all [idxOk, cutOk, leB]; done) | (simp_all [idxOk, cutOk, leB]; omega) | (simp [idxOk, cutOk, leB] at *; omega) | (have hf0 := h_x0.1; simp only [leB, decide_eq_true_eq, List.length_append, List.length_cons, List.length_nil]; omega)) (Evt.self _))
def impl_ownRule_v (x0 : Rule) : Rule := (⟨(slices_Clone_int64_v x0.fKeys), x0.fNeed, x0.fAfter⟩ : Rule)
theorem impl_ownRule_ev (x0 : Rule) (h_x0 : smRule x0) : Evt (fun k => impl_ownRule.f k x0) (impl_ownRule_v x0) :=
 (Evt.bind (slices_Clone_int64_ev x0.fKeys (h_x0.1)) (Evt.self _))
def impl_ownOut_v (x0 : Out) : Out := (⟨x0.fValue, (impl_ownRule_v x0.fRule)⟩ : Out)
theorem impl_ownOut_ev (x0 : Out) (h_x0 : smOut x0) : Evt (fun k => impl_ownOut.f k x0) (impl_ownOut_v x0) :=
 (Evt.bind (impl_ownRule_ev x0.fRule (h_x0.2)) (Evt.self _))
def impl_ownCoins_v (x0 : List Coin) : (List Coin) := ((List.range' 0 (x0.length - 0)).foldl (fun ac1 (i0 : Nat) => ((ac1 ++ ([(⟨(gt x0 (i0 : Int)).fRef, (impl_ownOut_v ((gt x0 (i0 : Int)).fOut)), (gt x0 (i0 : Int)).fHeight, (gt x0 (i0 : Int)).fMined⟩ : Coin)] : List Coin)))) ([] : List Coin))
theorem impl_ownCoins_ev (x0 : List Coin) (h_x0 : (Lm smCoin) x0) : Evt (fun k => impl_ownCoins.f k x0) (impl_ownCoins_v x0) :=
 (Evt.bind (Evt.gatherL (L := (fun k ac i => impl_ownCoins.l0 x0 k ac i)) x0.length (by have := h_x0; first | (have := this.1; omega) | omega) (fun ac1 (i0 : Nat) => ((ac1 ++ ([(⟨(gt x0 (i0 : Int)).fRef, (impl_ownOut_v ((gt x0 (i0 : Int)).fOut)), (gt x0 (i0 : Int)).fHeight, (gt x0 (i0 : Int)).fMined⟩ : Coin)] : List Coin)))) (fun i0 hi1 ac1 hgl => (by first | (simp only [List.length_append, List.length_cons, List.length_nil]; omega) | omega)) (fun i0 hi1 ac1 hgl o hg => by
 have hbn : x0.length ≤ 1048576 := (by have := h_x0; first | (have := this.1; omega) | omega)
 simp only [impl_ownCoins.l0.eq_2]
 exact Evt.t (int_lt hi1) (Evt.chk (by first | (simp only [leB, decide_eq_true_eq, List.length_append, List.length_cons, List.length_nil]; omega) | exact idx_ok (by omega) | exact idx_ok (by have hq := len_eq (by assumption); omega) | exact idx_found (by simp_all) | exact cut_ok (by omega) | exact or_ok (idx_ok (by omega)) | (refine or1 (fun hz => pre_ok (by simp at hz; omega) (by omega) (by omega))) | exact pre_ok (by omega) (by omega) (by omega) | (simp_all [idxOk, cutOk, leB]; done) | (simp_all [idxOk, cutOk, leB]; omega) | (simp [idxOk, cutOk, leB] at *; omega) | (have hf0 := h_x0.1; simp only [leB, decide_eq_true_eq, List.length_append, List.length_cons, List.length_nil]; omega)) (Evt.bind (impl_ownOut_ev ((gt x0 (i0 : Int)).fOut) (((h_x0).2 _ (gt_mem (by first | omega | (have hq := len_eq (by assumption); omega) | (have hf0 := h_x0.1; simp only [leB, decide_eq_true_eq, List.length_append, List.length_cons, List.length_nil]; omega)))).2.1)) (Evt.chk (by first | (simp only [leB, decide_eq_true_eq, List.length_append, List.length_cons, List.length_nil]; omega) | exact idx_ok (by omega) | exact idx_ok (by have hq := len_eq (by assumption); omega) | exact idx_found (by simp_all) | exact cut_ok (by omega) | exact or_ok (idx_ok (by omega)) | (refine or1 (fun hz => pre_ok (by simp at hz; omega) (by omega) (by omega))) | exact pre_ok (by omega) (by omega) (by omega) | (simp_all [idxOk, cutOk, leB]; done) | (simp_all [idxOk, cutOk, leB]; omega) | (simp [idxOk, cutOk, leB] at *; omega) | (have hf0 := h_x0.1; simp only [leB, decide_eq_true_eq, List.length_append, List.length_cons, List.length_nil]; omega)) hg)))) (fun j ac hj => by
 simp only [impl_ownCoins.l0.eq_2]
 exact Evt.f (ge_lt hj) (Evt.self _))) (Evt.self _))
theorem ownRule_id (r : Rule) : impl_ownRule_v r = r := by simp [impl_ownRule_v, slices_Clone_int64_v]
theorem ownOut_id (x : Out) : impl_ownOut_v x = x := by simp [impl_ownOut_v, ownRule_id]
theorem ownCoins_id (x0 : List Coin) : impl_ownCoins_v x0 = x0 := by
 have h := range_foldl x0 (fun ac (x : Coin) => ac ++ [(⟨x.fRef, impl_ownOut_v x.fOut, x.fHeight, x.fMined⟩ : Coin)]) []
 refine Eq.trans h ?_
 rw [fold_map]
 simp only [ownOut_id]
 simp
theorem sortFunc_ev (x0 : List Coin) (hn : x0.length ≤ 1000000) (hd : (x0.map refKey).Nodup) : Evt (fun k => slices_SortFunc_Coin.f k x0) (x0.mergeSort refLe) := by
 refine Evt.chk ?_ (Evt.self _)
 rw [leB_of hn, decide_eq_true hd]; rfl
theorem sorted_ev (x0 : List Coin) (hn : x0.length ≤ 1000000) (hd : (x0.map refKey).Nodup) : Evt (fun k => impl_sorted.f k x0) (x0.mergeSort refLe) := Evt.bind (sortFunc_ev x0 hn hd) (Evt.self _)
theorem l4Add_rise (x : Coin) : ∀ (l : List Coin), l.Pairwise (fun a b => lexL a.fRef b.fRef) → (∀ c ∈ l, refKey c ≠ refKey x) → (spec_l4Add_v l x).Pairwise (fun a b => lexL a.fRef b.fRef)
 | [], _, _ => by rw [l4Add_nil]; simp
 | c :: l, h, hx => by
  rw [List.pairwise_cons] at h
  rw [l4Add_cons]
  by_cases hc : spec_l4Ahead_v c.fRef x.fRef = true
  ·rw [if_pos hc, List.pairwise_cons]
   refine ⟨fun y hy => ?_, l4Add_rise x l h.2 (fun d hd => hx d (by simp [hd]))⟩
   have hy' := (l4Add_perm x l).mem_iff.1 hy
   rcases List.mem_append.1 hy' with hy' | hy'
   ·exact h.1 y hy'
   ·simp at hy'; subst hy'; exact (ahead_lex _ _).1 hc
  ·rw [if_neg hc, List.pairwise_cons, List.pairwise_cons]
   have hxc : lexL x.fRef c.fRef := by
    have h1 : ¬ lexL c.fRef x.fRef := fun h => hc ((ahead_lex _ _).2 h)
    have h2 := hx c (by simp)
    unfold lexL at *
    have h3 : ¬ (c.fRef.fTx = x.fRef.fTx ∧ c.fRef.fAt = x.fRef.fAt) := fun e => h2 (by unfold refKey; rw [e.1, e.2])
    omega
   refine ⟨fun y hy => ?_, h.1, h.2⟩
   rcases List.mem_cons.1 hy with rfl | hy
   ·exact hxc
   ·exact lex_trans hxc (h.1 y hy)
theorem l4Put_rise (x1 x3 : Int) (x4 : Bool) (x2 : List Out) : ∀ (d i : Nat) (ac : List Coin), ac.Pairwise (fun a b => lexL a.fRef b.fRef) → (∀ c ∈ ac, c.fRef.fTx = x1 → c.fRef.fAt < (i : Int)) → ((List.range' i d).foldl (fun ac i => spec_l4Add_v ac (newAt x1 x3 x4 x2 i)) ac).Pairwise (fun a b => lexL a.fRef b.fRef)
 | 0, i, ac, h, _ => h
 | d + 1, i, ac, h, hx => by
  rw [List.range'_succ, List.foldl_cons]
  refine l4Put_rise x1 x3 x4 x2 d (i + 1) _ (l4Add_rise _ ac h (fun c hc e => ?_)) (fun c hc e => ?_)
  ·have e1 := (Prod.mk.inj (show (c.fRef.fTx, c.fRef.fAt) = (x1, (i : Int)) from e)).1
   have e2 := (Prod.mk.inj (show (c.fRef.fTx, c.fRef.fAt) = (x1, (i : Int)) from e)).2
   have := hx c hc e1
   omega
  ·rcases List.mem_append.1 ((l4Add_perm _ ac).mem_iff.1 hc) with hc | hc
   ·have := hx c hc e; omega
   ·simp at hc; subst hc
    show (i : Int) < _
    omega
theorem l4Put_sort (x0 : List Coin) (x1 : Int) (x2 : List Out) (x3 : Int) (x4 : Bool) (h : Rise x0) (hno : ∀ c ∈ x0, c.fRef.fTx ≠ x1) : (spec_l4Put_v x0 x1 x2 x3 x4).Pairwise (fun a b => lexL a.fRef b.fRef) ∧ (x0 ++ news x1 x3 x4 x2).mergeSort refLe = spec_l4Put_v x0 x1 x2 x3 x4 ∧ ((x0 ++ news x1 x3 x4 x2).map refKey).Nodup := by
 have h1 : (spec_l4Put_v x0 x1 x2 x3 x4).Pairwise (fun a b => lexL a.fRef b.fRef) := l4Put_rise x1 x3 x4 x2 x2.length 0 x0 h.2 (fun c hc e => absurd e (hno c hc))
 have h2 : (spec_l4Put_v x0 x1 x2 x3 x4).Perm (x0 ++ news x1 x3 x4 x2) := l4Put_perm x1 x3 x4 x2 _ x0
 exact ⟨h1, sort_uniq h2 h1, ((h2.map refKey).nodup_iff).1 (rise_keys h1)⟩
theorem hasTx_no {x0 : List Coin} {x1 : Int} (h : impl_hasTx_v x0 x1 = false) : ∀ c ∈ x0, c.fRef.fTx ≠ x1 := fun c hc e => by
 unfold impl_hasTx_v at h
 rw [slices_ContainsFunc_impl_Coin_any, List.any_eq_false] at h
 obtain ⟨i, hi, rfl⟩ := List.getElem_of_mem hc
 have := h i (by rw [List.mem_range'_1]; omega)
 unfold impl_hasTx_1_v at this
 rw [gt_eq (by simpa using hi)] at this
 simp only [Int.toNat_natCast] at this
 exact this (by simpa using e)
theorem putCoins_l1 (x1 x3 : Int) (x4 : Bool) (x2 : List Out) (h_x2 : Lm smOut x2) : ∀ (d i : Nat) (ac : List Coin), i + d = x2.length → ac.length + d ≤ 10000000 → Evt (fun k => impl_putCoins.l1 x1 x2 x3 x4 k ac (i : Int)) (ac ++ (List.range' i d).map (newAt x1 x3 x4 x2))
 | 0, i, ac, hi, ha => by
  refine Evt.s ?_
  simp only [impl_putCoins.l1.eq_2]
  exact Evt.f (ge_lt (by omega)) (Evt.ret (by simp))
 | d + 1, i, ac, hi, ha => by
  have hlt : i < x2.length := by omega
  have hn := h_x2.1
  refine Evt.s ?_
  simp only [impl_putCoins.l1.eq_2]
  refine Evt.t (int_lt hlt) (Evt.chk (idx_ok hlt) (Evt.bind (impl_ownOut_ev _ (h_x2.2 _ (gt_mem hlt))) (Evt.chk (leB_of (by simp; omega)) ?_)))
  rw [w64 hlt (by omega), ownOut_id]
  refine (putCoins_l1 x1 x3 x4 x2 h_x2 d (i + 1) _ (by omega) (by simp; omega)).to ?_
  rw [List.range'_succ, List.map_cons]
  simp [newAt]
def impl_putCoins_v (x0 : List Coin) (x1 : Int) (x2 : List Out) (x3 : Int) (x4 : Bool) : (List Coin) × Int := (bif ((!(impl_isId_v x1)) || (!(bif (!(!(impl_isId_v x1))) then (impl_isHeight_v x3) else default))) then (([] : List Coin), 3) else (bif (decide (4 < (x2.length : Int))) then (([] : List Coin), 2) else (onO ((List.range' 0 (x2.length - 0)).findSome? (fun (i0 : Nat) => (bif ((impl_outFault_v (gt x2 (i0 : Int))) != 0) then (some (([] : List Coin), (impl_outFault_v (gt x2 (i0 : Int))))) else none))) (fun r => r) (bif (impl_hasTx_v x0 x1) then (([] : List Coin), 7) else (bif (decide (40 < (wrap64 ((x0.length : Int) + (x2.length : Int))))) then (([] : List Coin), 2) else (((x0 ++ news x1 x3 x4 x2).mergeSort refLe), 0))))))
theorem impl_putCoins_ev (x0 : List Coin) (x1 : Int) (x2 : List Out) (x3 : Int) (x4 : Bool) (h_x0 : (Lm smCoin) x0) (h_x2 : (Lm smOut) x2) (hr : Rise x0) (h40 : x0.length ≤ 40) : Evt (fun k => impl_putCoins.f k x0 x1 x2 x3 x4) (impl_putCoins_v x0 x1 x2 x3 x4) :=
 (Evt.bind (impl_isId_ev x1) (Evt.bind (Evt.ifh (fun _ => (impl_isHeight_ev x3)) (fun _ => Evt.self _)) (Evt.ifh (fun hc6 => (Evt.self _)) (fun hc6 => (Evt.ifh (fun hc5 => (Evt.self _)) (fun hc5 => (Evt.loop (r' := fun r => r) (Evt.srch (L := (fun k i => impl_putCoins.l0 x2 k i)) 0 x2.length (by have := h_x2.1; omega) (fun (i0 : Nat) => (bif ((impl_outFault_v (gt x2 (i0 : Int))) != 0) then (some (([] : List Coin), (impl_outFault_v (gt x2 (i0 : Int))))) else none)) (fun i0 hs2 hi2 => by
 simp only [impl_putCoins.l0.eq_2]
 exact Evt_t2 (int_lt hi2) (StE.chk (idx_ok (by omega)) (StE.bind (impl_outFault_ev (gt x2 (i0 : Int)) (h_x2.2 _ (gt_mem (by omega)))) (StE.ifh (fun hc1 => (StE.ret _)) (fun hc1 => StE.next))))) (fun j hj => by
 simp only [impl_putCoins.l0.eq_2]
 exact Evt.f (ge_lt hj) (Evt.self _))) (fun _ => rfl) (Evt.bind (impl_hasTx_ev x0 x1 (h_x0)) (Evt.ifh (fun hc4 => (Evt.self _)) (fun hc4 => (Evt.ifh (fun hc3 => (Evt.self _)) (fun hc3 => by
 have hn2 : x2.length ≤ 4 := by have := of_decide_eq_false hc5; omega
 have eo := impl_ownCoins_ev x0 h_x0
 rw [ownCoins_id] at eo
 have hns : (x0 ++ news x1 x3 x4 x2).length ≤ 1000000 := by unfold news; simp; omega
 exact Evt.bind eo (Evt.bind (putCoins_l1 x1 x3 x4 x2 h_x2 x2.length 0 x0 (by omega) (by omega)) (Evt.bind (sorted_ev _ hns (l4Put_sort x0 x1 x2 x3 x4 hr (hasTx_no hc4)).2.2) (Evt.self _)))))))))))))))
def impl_findCoin_1_v (x0 : Coin) (x1 : Ref) : Int := (impl_compareRefs_v x0.fRef x1)
theorem impl_findCoin_1_ev (x0 : Coin) (x1 : Ref) (h_x0 : smCoin x0) : Evt (fun k => impl_findCoin_1.f k x0 x1) (impl_findCoin_1_v x0 x1) :=
 (Evt.bind (impl_compareRefs_ev x0.fRef x1) (Evt.self _))
def bsI (q : Nat → Bool) : Nat → Nat → Nat → Nat
 | 0, i, _ => i
 | m + 1, i, j => bif decide (i < j) then (bif q ((i + j) / 2) then bsI q m ((i + j) / 2 + 1) j else bsI q m i ((i + j) / 2)) else i
theorem mid_eq {i j : Nat} (h1 : i < j) (h2 : j ≤ 1048576) : wrap64 ((IntKind.u64.wrap (wrap64 ((i : Int) + (j : Int)))) / 2 ^ ((1 : Int)).toNat) = (((i + j) / 2 : Nat) : Int) := by
 have e1 : wrap64 ((i : Int) + (j : Int)) = (i : Int) + j := wrap64_in _ (by omega)
 have e2 : IntKind.u64.wrap ((i : Int) + j) = (i : Int) + j := u64_in _ (by omega)
 have e3 : (2 : Int) ^ ((1 : Int)).toNat = 2 := by decide
 rw [e1, e2, e3]
 have e4 : ((i : Int) + j) / 2 = (((i + j) / 2 : Nat) : Int) := by omega
 rw [e4]
 exact wrap64_in _ (by omega)
theorem Evt.bs {L : Nat → Int → Int → Option Int} (n : Nat) (q : Nat → Bool)
  (step : ∀ i j : Nat, i < j → j ≤ n → ∀ r, (q ((i + j) / 2) = true → Evt (fun k => L k (((i + j) / 2 + 1 : Nat) : Int) (j : Int)) r) → (q ((i + j) / 2) = false → Evt (fun k => L k (i : Int) (((i + j) / 2 : Nat) : Int)) r) → Evt (fun k => L (k + 1) (i : Int) (j : Int)) r)
  (done : ∀ i j : Nat, j ≤ i → Evt (fun k => L (k + 1) (i : Int) (j : Int)) (i : Int)) : Evt (fun k => L k 0 (n : Int)) ((bsI q n 0 n : Nat) : Int) := by
 have key : ∀ m i j : Nat, j ≤ i + m → j ≤ n → Evt (fun k => L k (i : Int) (j : Int)) ((bsI q m i j : Nat) : Int) := by
  intro m
  induction m with
  | zero => intro i j h _; exact Evt.s (done i j (by omega))
  | succ m ih =>
   intro i j h hj
   refine Evt.s ?_
   unfold bsI
   by_cases hlt : i < j
   ·rw [decide_eq_true hlt]
    refine step i j hlt hj _ (fun hq => ?_) (fun hq => ?_)
    ·rw [hq]; exact ih _ _ (by omega) hj
    ·rw [hq]; exact ih _ _ (by omega) (by omega)
   ·rw [decide_eq_false hlt]; exact done i j (by omega)
 exact key n 0 n (by omega) (Nat.le_refl _)
theorem bsI_spec (q : Nat → Bool) (n : Nat) (mono : ∀ a b, a ≤ b → b < n → q b = true → q a = true) :
  bsI q n 0 n ≤ n ∧ (∀ i, i < bsI q n 0 n → q i = true) ∧ (∀ i, bsI q n 0 n ≤ i → i < n → q i = false) := by
 have key : ∀ m i j : Nat, j ≤ i + m → i ≤ j → j ≤ n → (∀ a, a < i → q a = true) → (∀ a, j ≤ a → a < n → q a = false) →
   bsI q m i j ≤ n ∧ (∀ a, a < bsI q m i j → q a = true) ∧ (∀ a, bsI q m i j ≤ a → a < n → q a = false) := by
  intro m
  induction m with
  | zero =>
   intro i j h hij hj h1 h2
   have : i = j := by omega
   subst this
   exact ⟨hj, h1, h2⟩
  | succ m ih =>
   intro i j h hij hj h1 h2
   unfold bsI
   by_cases hlt : i < j
   ·rw [decide_eq_true hlt]
    cases hq : q ((i + j) / 2)
    ·exact ih _ _ (by omega) (by omega) (by omega) h1 fun a ha hn => by
      cases hqa : q a
      ·rfl
      ·rw [mono _ a ha hn hqa] at hq; cases hq
    ·exact ih _ _ (by omega) (by omega) hj (fun a ha => mono a _ (by omega) (by omega) hq) h2
   ·rw [decide_eq_false hlt]
    have : i = j := by omega
    subst this
    exact ⟨hj, h1, h2⟩
 exact key n 0 n (by omega) (by omega) (Nat.le_refl _) (fun a ha => by omega) (fun a ha hn => by omega)
theorem fs_none {β : Type} {p : Nat → Option β} : ∀ {l : List Nat}, (∀ i ∈ l, p i = none) → l.findSome? p = none
 | [], _ => rfl
 | i :: l, h => by rw [List.findSome?_cons, h i (List.mem_cons_self ..)]; exact fs_none fun j hj => h j (List.mem_cons_of_mem _ hj)
theorem fs_first {β : Type} {p : Nat → Option β} {x : β} : ∀ (d i B : Nat), i ≤ B → B < i + d → (∀ j, i ≤ j → j < B → p j = none) → p B = some x → (List.range' i d).findSome? p = some x
 | 0, i, B, h1, h2, _, _ => by omega
 | d + 1, i, B, h1, h2, h3, h4 => by
  rw [List.range'_succ, List.findSome?_cons]
  by_cases e : i = B
  ·subst e; rw [h4]
  ·rw [h3 i (Nat.le_refl _) (by omega)]
   exact fs_first d (i + 1) B (by omega) (by omega) (fun j hj => h3 j (by omega)) h4
theorem bs_find (n : Nat) (c : Nat → Int) (mono : ∀ a b, a ≤ b → b < n → c b < 0 → c a < 0) (str : ∀ a b, a < b → b < n → c b = 0 → c a < 0) (d : Int) :
  (List.range' 0 (n - 0)).findSome? (fun i => bif c i == 0 then some (i : Int) else none) =
   bif decide (((bsI (fun i => decide (c i < 0)) n 0 n : Nat) : Int) < (n : Int)) && ((bif decide (((bsI (fun i => decide (c i < 0)) n 0 n : Nat) : Int) < (n : Int)) then c (bsI (fun i => decide (c i < 0)) n 0 n) else d) == 0) then some ((bsI (fun i => decide (c i < 0)) n 0 n : Nat) : Int) else none := by
 obtain ⟨h1, h2, h3⟩ := bsI_spec (fun i => decide (c i < 0)) n (fun a b h hb hq => by simp at hq ⊢; exact mono a b h hb hq)
 generalize bsI (fun i => decide (c i < 0)) n 0 n = B at *
 by_cases hB : B < n
 ·rw [decide_eq_true (show (B : Int) < (n : Int) by omega)]
  simp only [Bool.true_and, cond_true]
  by_cases h0 : c B = 0
  ·rw [h0]
   refine fs_first (n - 0) 0 B (Nat.zero_le _) (by omega) (fun j _ hj => ?_) (by rw [h0]; rfl)
   have := h2 j hj
   simp at this
   have : (c j == 0) = false := by simp; omega
   rw [this]; rfl
  ·have e0 : (c B == 0) = false := by simp [h0]
   rw [e0]
   refine fs_none fun i hi => ?_
   obtain ⟨j, hj, rfl⟩ := List.mem_range'.1 hi
   have e : (c (0 + 1 * j) == 0) = false := by
    simp only [beq_eq_false_iff_ne, ne_eq]
    intro hc
    rcases Nat.lt_trichotomy (0 + 1 * j) B with h | h | h
    ·have := h2 _ h; simp at this; simp at hc; omega
    ·rw [h] at hc; exact h0 hc
    ·have h4 := str B _ h (by omega) hc
     have h5 := h3 B (Nat.le_refl _) hB
     simp at h5; omega
   rw [e]; rfl
 ·rw [decide_eq_false (show ¬ (B : Int) < (n : Int) by omega)]
  refine fs_none fun i hi => ?_
  obtain ⟨j, hj, rfl⟩ := List.mem_range'.1 hi
  have h4 := h2 (0 + 1 * j) (by omega)
  simp only [decide_eq_true_eq] at h4
  have e : (c (0 + 1 * j) == 0) = false := by simp only [beq_eq_false_iff_ne, ne_eq]; omega
  rw [e]; rfl
def slices_BinarySearchFunc_impl_Coin_v (x0 : List Coin) (x1 : Ref) : Int × Bool := (((bsI (fun i => decide (impl_findCoin_1_v (gt x0 (i : Int)) x1 < 0)) x0.length 0 x0.length : Nat) : Int), (decide (((bsI (fun i => decide (impl_findCoin_1_v (gt x0 (i : Int)) x1 < 0)) x0.length 0 x0.length : Nat) : Int) < (x0.length : Int)) && ((bif decide (((bsI (fun i => decide (impl_findCoin_1_v (gt x0 (i : Int)) x1 < 0)) x0.length 0 x0.length : Nat) : Int) < (x0.length : Int)) then impl_findCoin_1_v (gt x0 ((bsI (fun i => decide (impl_findCoin_1_v (gt x0 (i : Int)) x1 < 0)) x0.length 0 x0.length : Nat) : Int)) x1 else default) == 0)))
theorem slices_BinarySearchFunc_impl_Coin_ev (x0 : List Coin) (x1 : Ref) (h_x0 : ((Lm smCoin)) x0) : Evt (fun k => slices_BinarySearchFunc_impl_Coin.f k x0 x1) (slices_BinarySearchFunc_impl_Coin_v x0 x1) := by
 have hn := h_x0.1
 refine Evt.bind (Evt.bs (L := fun k i j => slices_BinarySearchFunc_impl_Coin.l0 x0 x1 k i j) x0.length (fun i => decide (impl_findCoin_1_v (gt x0 (i : Int)) x1 < 0)) (fun i j h1 h2 r ht hf => ?_) (fun i j h => ?_)) ?_
 ·simp only [slices_BinarySearchFunc_impl_Coin.l0.eq_2, mid_eq h1 (Nat.le_trans h2 hn)]
  refine Evt.t (by simp; omega) (Evt.chk rfl (Evt.chk (idx_ok (by omega)) (Evt.bind (impl_findCoin_1_ev (gt x0 _) x1 (h_x0.2 _ (gt_mem (by omega)))) (Evt.cases (fun hq => ?_) (fun hq => ?_)))))
  ·rw [w64 (n := x0.length) (by omega) (by omega)]; exact ht hq
  ·exact hf hq
 ·simp only [slices_BinarySearchFunc_impl_Coin.l0.eq_2]
  exact Evt.f (by simp; omega) (Evt.self _)
 ·refine Evt.chk (or1 fun hz => idx_ok (by simp at hz; omega)) (Evt.bind (Evt.ifh (fun hz => impl_findCoin_1_ev (gt x0 _) x1 (h_x0.2 _ (gt_mem (by simp at hz; omega)))) (fun _ => Evt.self _)) (Evt.self _))
def impl_findCoin_v (x0 : List Coin) (x1 : Ref) : Int × Bool := ((slices_BinarySearchFunc_impl_Coin_v x0 x1).1, (slices_BinarySearchFunc_impl_Coin_v x0 x1).2)
theorem impl_findCoin_ev (x0 : List Coin) (x1 : Ref) (h_x0 : (Lm smCoin) x0) : Evt (fun k => impl_findCoin.f k x0 x1) (impl_findCoin_v x0 x1) :=
 (Evt.bind (slices_BinarySearchFunc_impl_Coin_ev x0 x1 (h_x0)) (Evt.self _))
theorem findCoin_in (x0 : List Coin) (x1 : Ref) (h : (!(impl_findCoin_v x0 x1).2) = false) : idxOk (impl_findCoin_v x0 x1).1 x0.length = true := by
 have h2 : (impl_findCoin_v x0 x1).2 = true := notF h
 have h3 : (decide ((impl_findCoin_v x0 x1).1 < (x0.length : Int))) = true := by
  have : (decide ((impl_findCoin_v x0 x1).1 < (x0.length : Int)) && _) = true := h2
  exact (Bool.and_eq_true _ _ ▸ this).1
 unfold idxOk
 rw [Bool.and_eq_true]
 exact ⟨by show decide (0 ≤ ((_ : Nat) : Int)) = true; simp, h3⟩
def slices_Delete_impl_Coin_v (x0 : List Coin) (x1 : Int) (x2 : Int) : List Coin := bif (x1 == x2) then x0 else x0.take (x1).toNat ++ x0.drop (x2).toNat
theorem slices_Delete_impl_Coin_ev (x0 : List Coin) (x1 : Int) (x2 : Int) (h1 : cutOk x2 x0.length = true) (h2 : cutOk x1 (x2).toNat = true) : Evt (fun k => slices_Delete_impl_Coin.f k x0 x1 x2) (slices_Delete_impl_Coin_v x0 x1 x2) := by
 have a1 := cut_lo h2
 have a2 := cut_hi h2
 have a3 := cut_hi h1
 have a4 := cut_lo h1
 refine Evt.chk h1 (Evt.chk h2 (Evt.ifh (fun _ => Evt.self _) (fun hne => Evt.chk ?_ (Evt.chk h1 (Evt.chk h2 (Evt.chk ?_ (Evt.chk ?_ (Evt.self _))))))))
 ·unfold cutOk; simp; omega
 ·have h5 : x1 ≠ x2 := by simpa using hne
  simp; omega
 ·rw [List.length_append, List.length_take, List.length_drop]; simp; omega
def takeG2 (out : List Coin) (r : Ref) : Option (List Coin) := bif !(impl_findCoin_v out r).2 then none else some (slices_Delete_impl_Coin_v out (impl_findCoin_v out r).1 (wrap64 ((impl_findCoin_v out r).1 + 1)))
theorem takeG2_pres (s : List Coin) (r : Ref) (t : List Coin) (hs : Lm smCoin s) (h : takeG2 s r = some t) : t.Sublist s := by
 unfold takeG2 at h
 cases hc : !(impl_findCoin_v s r).2
 ·rw [hc] at h
  have h2 : slices_Delete_impl_Coin_v s (impl_findCoin_v s r).1 (wrap64 ((impl_findCoin_v s r).1 + 1)) = t := Option.some.inj h
  subst h2
  have h3 := findCoin_in s r hc
  unfold slices_Delete_impl_Coin_v
  cases (impl_findCoin_v s r).1 == wrap64 ((impl_findCoin_v s r).1 + 1)
  ·exact cut_sub s (cut_hi (cut_self h3 hs.1))
  ·exact List.Sublist.refl _
 ·rw [hc] at h; cases h
def impl_takeCoins_v (x0 : List Coin) (x1 : List Ref) : (List Coin) × Int := match stepAll takeG2 (impl_ownCoins_v x0) x1 with
 | some t => (t, 0)
 | none => ([], 4)
theorem impl_takeCoins_ev (x0 : List Coin) (x1 : List Ref) (h_x0 : Lm smCoin x0) (h_x1 : Lm smRef x1) : Evt (fun k => impl_takeCoins.f k x0 x1) (impl_takeCoins_v x0 x1) := by
 have hn := h_x1.1
 refine Evt.bind (impl_ownCoins_ev x0 h_x0) (Evt.bind (Evt.steps (L := fun k s i => impl_takeCoins.l0 x1 k s i) x1 (by omega) (Lm smCoin) takeG2 (([] : List Coin), (4 : Int)) (fun i hi s hs o hsome hnone => ?_) (fun s r t hs h => Lm_sub hs (takeG2_pres s r t hs h)) (fun s => ?_) (impl_ownCoins_v x0) (by rw [ownCoins_id]; exact h_x0)) ?_)
 ·simp only [impl_takeCoins.l0.eq_2]
  refine Evt.t (int_lt hi) (Evt.chk (idx_ok hi) (Evt.bind (impl_findCoin_ev s _ hs) (Evt.cases (fun hc => ?_) (fun hc => ?_))))
  ·exact Evt.ret (hnone (by unfold takeG2; rw [hc]; rfl)).symm
  ·have h3 := findCoin_in s _ hc
   exact Evt.bind (slices_Delete_impl_Coin_ev s _ _ (cut_next h3 hs.1) (cut_self h3 hs.1)) (hsome _ (by unfold takeG2; rw [hc]; rfl))
 ·simp only [impl_takeCoins.l0.eq_2]
  exact Evt.f int_nlt (Evt.self _)
 ·unfold impl_takeCoins_v
  cases stepAll takeG2 (impl_ownCoins_v x0) x1 with
  | some t => exact Evt.self _
  | none => exact Evt.self _
def impl_CoinAt_v (x0 : List Coin) (x1 : Ref) : CoinsResult := (bif ((impl_CoinsFault_v x0) != 0) then (⟨(impl_CoinsFault_v x0), ([] : List Coin)⟩ : CoinsResult) else (bif !(impl_findCoin_v x0 x1).2 then (⟨4, ([] : List Coin)⟩ : CoinsResult) else (⟨0, (impl_ownCoins_v ((x0.take (wrap64 ((impl_findCoin_v x0 x1).1 + 1)).toNat).drop ((impl_findCoin_v x0 x1).1).toNat))⟩ : CoinsResult)))
theorem impl_CoinAt_ev (x0 : List Coin) (x1 : Ref) (h_x0 : (Lm smCoin) x0) : Evt (fun k => impl_CoinAt.f k x0 x1) (impl_CoinAt_v x0 x1) :=
 (Evt.bind (impl_CoinsFault_ev x0 (h_x0)) (Evt.ifh (fun hc1 => (Evt.self _)) (fun hc1 => (Evt.bind (impl_findCoin_ev x0 x1 (h_x0)) (Evt.ifh (fun hc0 => (Evt.self _)) (fun hc0 => (Evt.chk (by first | exact idx_ok (by omega) | exact idx_ok (by have hq := len_eq (by assumption); omega) | exact idx_found (by simp_all) | exact cut_ok (by omega) | exact or_ok (idx_ok (by omega)) | (refine or1 (fun hz => pre_ok (by simp at hz; omega) (by omega) (by omega))) | exact pre_ok (by omega) (by omega) (by omega) | (simp_all [idxOk, cutOk, leB]; done) | (simp_all [idxOk, cutOk, leB]; omega) | (simp [idxOk, cutOk, leB] at *; omega) | exact cut_next (findCoin_in _ _ (by assumption)) h_x0.1 | exact cut_self (findCoin_in _ _ (by assumption)) h_x0.1 | (have hf0 := h_x0.1; simp only [leB, decide_eq_true_eq, List.length_append, List.length_cons, List.length_nil]; omega)) (Evt.chk (by first | exact idx_ok (by omega) | exact idx_ok (by have hq := len_eq (by assumption); omega) | exact idx_found (by simp_all) | exact cut_ok (by omega) | exact or_ok (idx_ok (by omega)) | (refine or1 (fun hz => pre_ok (by simp at hz; omega) (by omega) (by omega))) | exact pre_ok (by omega) (by omega) (by omega) | (simp_all [idxOk, cutOk, leB]; done) | (simp_all [idxOk, cutOk, leB]; omega) | (simp [idxOk, cutOk, leB] at *; omega) | exact cut_next (findCoin_in _ _ (by assumption)) h_x0.1 | exact cut_self (findCoin_in _ _ (by assumption)) h_x0.1 | (have hf0 := h_x0.1; simp only [leB, decide_eq_true_eq, List.length_append, List.length_cons, List.length_nil]; omega)) (Evt.bind (impl_ownCoins_ev ((x0.take (wrap64 ((impl_findCoin_v x0 x1).1 + 1)).toNat).drop ((impl_findCoin_v x0 x1).1).toNat) ((Lm_drop (Lm_take h_x0)))) (Evt.self _))))))))))
def slices_Equal_int64_v (x0 : List Int) (x1 : List Int) : Bool := (bif ((x0.length : Int) != (x1.length : Int)) then false else (onO ((List.range' 0 (x0.length - 0)).findSome? (fun (i0 : Nat) => (bif ((gt x0 (i0 : Int)) != (gt x1 (i0 : Int))) then (some false) else none))) (fun r => r) true))
theorem slices_Equal_int64_ev (x0 : List Int) (x1 : List Int) (h_x0 : (Lm tr) x0) (h_x1 : (Lm tr) x1) : Evt (fun k => slices_Equal_int64.f k x0 x1) (slices_Equal_int64_v x0 x1) :=
 (Evt.ifh (fun hc2 => (Evt.self _)) (fun hc2 => (Evt.loop (r' := fun r => r) (Evt.srch (L := (fun k i => slices_Equal_int64.l0 x0 x1 k i)) 0 x0.length (by have := h_x0; first | (have := this.1; omega) | omega) (fun (i0 : Nat) => (bif ((gt x0 (i0 : Int)) != (gt x1 (i0 : Int))) then (some false) else none)) (fun i0 hs2 hi2 => by
 have hbn : x0.length ≤ 9223372036854775807 := (by have := h_x0; first | (have := this.1; omega) | omega)
 simp only [slices_Equal_int64.l0.eq_2]
 exact Evt_t2 (int_lt hi2) (StE.chk (by first | exact idx_ok (by omega) | exact idx_ok (by have hq := len_eq (by assumption); omega) | exact idx_found (show (0 : Int) ≤ (i0 : Int) by simp_all) | exact cut_ok (by omega) | exact or_ok (idx_ok (by omega)) | (refine or1 (fun hz => pre_ok (by simp at hz; omega) (by omega) (by omega))) | exact pre_ok (by omega) (by omega) (by omega) | (simp_all [idxOk, cutOk, leB]; done) | (simp_all [idxOk, cutOk, leB]; omega) | (simp [idxOk, cutOk, leB] at *; omega) | (have hf0 := h_x0.1; have hf1 := h_x1.1; simp only [leB, decide_eq_true_eq, List.length_append, List.length_cons, List.length_nil]; omega)) (StE.chk (by first | exact idx_ok (by omega) | exact idx_ok (by have hq := len_eq (by assumption); omega) | exact idx_found (show (0 : Int) ≤ (i0 : Int) by simp_all) | exact cut_ok (by omega) | exact or_ok (idx_ok (by omega)) | (refine or1 (fun hz => pre_ok (by simp at hz; omega) (by omega) (by omega))) | exact pre_ok (by omega) (by omega) (by omega) | (simp_all [idxOk, cutOk, leB]; done) | (simp_all [idxOk, cutOk, leB]; omega) | (simp [idxOk, cutOk, leB] at *; omega) | (have hf0 := h_x0.1; have hf1 := h_x1.1; simp only [leB, decide_eq_true_eq, List.length_append, List.length_cons, List.length_nil]; omega)) (StE.ifh (fun hc1 => (StE.ret _)) (fun hc1 => StE.next))))) (fun j hj => by
 simp only [slices_Equal_int64.l0.eq_2]
 exact Evt.f (ge_lt hj) (Evt.self _))) (fun _ => rfl) (Evt.self _))))
def impl_SameRules_v (x0 : Rule) (x1 : Rule) : Bool := (((slices_Equal_int64_v x0.fKeys x1.fKeys) && (x0.fNeed == x1.fNeed)) && (x0.fAfter == x1.fAfter))
theorem impl_SameRules_ev (x0 : Rule) (x1 : Rule) (h_x0 : smRule x0) (h_x1 : smRule x1) : Evt (fun k => impl_SameRules.f k x0 x1) (impl_SameRules_v x0 x1) :=
 (Evt.bind (slices_Equal_int64_ev x0.fKeys x1.fKeys (h_x0.1) (h_x1.1)) (Evt.self _))
def impl_sameOuts_v (x0 : Out) (x1 : Out) : Bool := ((x0.fValue == x1.fValue) && (bif (x0.fValue == x1.fValue) then (impl_SameRules_v x0.fRule x1.fRule) else default))
theorem impl_sameOuts_ev (x0 : Out) (x1 : Out) (h_x0 : smOut x0) (h_x1 : smOut x1) : Evt (fun k => impl_sameOuts.f k x0 x1) (impl_sameOuts_v x0 x1) :=
 (Evt.bind (Evt.ifh (fun _ => (impl_SameRules_ev x0.fRule x1.fRule (h_x0.2) (h_x1.2))) (fun _ => Evt.self _)) (Evt.self _))
def impl_sameCoin_v (x0 : Coin) (x1 : Coin) : Bool := (((((x0.fRef.fTx == x1.fRef.fTx) && (x0.fRef.fAt == x1.fRef.fAt)) && (bif ((x0.fRef.fTx == x1.fRef.fTx) && (x0.fRef.fAt == x1.fRef.fAt)) then (impl_sameOuts_v x0.fOut x1.fOut) else default)) && (x0.fHeight == x1.fHeight)) && (x0.fMined == x1.fMined))
theorem impl_sameCoin_ev (x0 : Coin) (x1 : Coin) (h_x0 : smCoin x0) (h_x1 : smCoin x1) : Evt (fun k => impl_sameCoin.f k x0 x1) (impl_sameCoin_v x0 x1) :=
 (Evt.bind (Evt.ifh (fun _ => (impl_sameOuts_ev x0.fOut x1.fOut (h_x0.2.1) (h_x1.2.1))) (fun _ => Evt.self _)) (Evt.self _))
def slices_EqualFunc_impl_Coin_v (x0 : List Coin) (x1 : List Coin) : Bool := (bif ((x0.length : Int) != (x1.length : Int)) then false else (onO ((List.range' 0 (x0.length - 0)).findSome? (fun (i0 : Nat) => (bif !(impl_sameCoin_v (gt x0 (i0 : Int)) (gt x1 (i0 : Int))) then (some false) else none))) (fun r => r) true))
theorem slices_EqualFunc_impl_Coin_ev (x0 : List Coin) (x1 : List Coin) (h_x0 : (Lm smCoin) x0) (h_x1 : (Lm smCoin) x1) : Evt (fun k => slices_EqualFunc_impl_Coin.f k x0 x1) (slices_EqualFunc_impl_Coin_v x0 x1) :=
 (Evt.ifh (fun hc2 => (Evt.self _)) (fun hc2 => (Evt.loop (r' := fun r => r) (Evt.srch (L := (fun k i => slices_EqualFunc_impl_Coin.l0 x0 x1 k i)) 0 x0.length (by have := h_x0; first | (have := this.1; omega) | omega) (fun (i0 : Nat) => (bif !(impl_sameCoin_v (gt x0 (i0 : Int)) (gt x1 (i0 : Int))) then (some false) else none)) (fun i0 hs2 hi2 => by
 have hbn : x0.length ≤ 9223372036854775807 := (by have := h_x0; first | (have := this.1; omega) | omega)
 simp only [slices_EqualFunc_impl_Coin.l0.eq_2]
 exact Evt_t2 (int_lt hi2) (StE.chk (by first | exact idx_ok (by omega) | exact idx_ok (by have hq := len_eq (by assumption); omega) | exact idx_found (show (0 : Int) ≤ (i0 : Int) by simp_all) | exact cut_ok (by omega) | exact or_ok (idx_ok (by omega)) | (refine or1 (fun hz => pre_ok (by simp at hz; omega) (by omega) (by omega))) | exact pre_ok (by omega) (by omega) (by omega) | (simp_all [idxOk, cutOk, leB]; done) | (simp_all [idxOk, cutOk, leB]; omega) | (simp [idxOk, cutOk, leB] at *; omega) | (have hf0 := h_x0.1; have hf1 := h_x1.1; simp only [leB, decide_eq_true_eq, List.length_append, List.length_cons, List.length_nil]; omega)) (StE.chk (by first | exact idx_ok (by omega) | exact idx_ok (by have hq := len_eq (by assumption); omega) | exact idx_found (show (0 : Int) ≤ (i0 : Int) by simp_all) | exact cut_ok (by omega) | exact or_ok (idx_ok (by omega)) | (refine or1 (fun hz => pre_ok (by simp at hz; omega) (by omega) (by omega))) | exact pre_ok (by omega) (by omega) (by omega) | (simp_all [idxOk, cutOk, leB]; done) | (simp_all [idxOk, cutOk, leB]; omega) | (simp [idxOk, cutOk, leB] at *; omega) | (have hf0 := h_x0.1; have hf1 := h_x1.1; simp only [leB, decide_eq_true_eq, List.length_append, List.length_cons, List.length_nil]; omega)) (StE.bind (impl_sameCoin_ev (gt x0 (i0 : Int)) (gt x1 (i0 : Int)) ((h_x0).2 _ (gt_mem (by first | omega | (have hq := len_eq (by assumption); omega) | (have hf0 := h_x0.1; have hf1 := h_x1.1; simp only [leB, decide_eq_true_eq, List.length_append, List.length_cons, List.length_nil]; omega)))) ((h_x1).2 _ (gt_mem (by first | omega | (have hq := len_eq (by assumption); omega) | (have hf0 := h_x0.1; have hf1 := h_x1.1; simp only [leB, decide_eq_true_eq, List.length_append, List.length_cons, List.length_nil]; omega))))) (StE.ifh (fun hc1 => (StE.ret _)) (fun hc1 => StE.next)))))) (fun j hj => by
 simp only [slices_EqualFunc_impl_Coin.l0.eq_2]
 exact Evt.f (ge_lt hj) (Evt.self _))) (fun _ => rfl) (Evt.self _))))
def impl_SameCoins_v (x0 : List Coin) (x1 : List Coin) : Bool := (slices_EqualFunc_impl_Coin_v x0 x1)
theorem impl_SameCoins_ev (x0 : List Coin) (x1 : List Coin) (h_x0 : (Lm smCoin) x0) (h_x1 : (Lm smCoin) x1) : Evt (fun k => impl_SameCoins.f k x0 x1) (impl_SameCoins_v x0 x1) :=
 (Evt.bind (slices_EqualFunc_impl_Coin_ev x0 x1 (h_x0) (h_x1)) (Evt.self _))
theorem findCoin_key (x0 : List Coin) (x1 : Ref) (rise : ∀ a b : Nat, a < b → b < x0.length → lexL (gt x0 (a : Int)).fRef (gt x0 (b : Int)).fRef) : (List.range' 0 (x0.length - 0)).findSome? (fun i : Nat => bif (((gt x0 (i : Int)).fRef.fTx == x1.fTx) && ((gt x0 (i : Int)).fRef.fAt == x1.fAt)) then some (i : Int) else none) = bif (impl_findCoin_v x0 x1).2 then some (impl_findCoin_v x0 x1).1 else none := by
 have hc0 : ∀ i : Nat, impl_findCoin_1_v (gt x0 (i : Int)) x1 = 0 ↔ (gt x0 (i : Int)).fRef.fTx = x1.fTx ∧ (gt x0 (i : Int)).fRef.fAt = x1.fAt := fun i => compareRefs_zero _ _
 have hcl : ∀ i : Nat, impl_findCoin_1_v (gt x0 (i : Int)) x1 < 0 ↔ lexL (gt x0 (i : Int)).fRef x1 := fun i => compareRefs_lt _ _
 have key := bs_find x0.length (fun i => impl_findCoin_1_v (gt x0 (i : Int)) x1) (fun a b hab hb hlt => by
  rw [hcl] at hlt ⊢
  rcases Nat.lt_or_eq_of_le hab with h1 | h1
  ·exact lex_trans (rise a b h1 hb) hlt
  ·subst h1; exact hlt) (fun a b hab hb h0 => by
  rw [hc0] at h0
  rw [hcl]
  have := rise a b hab hb
  unfold lexL at *; omega) default
 have e : (fun i : Nat => bif (((gt x0 (i : Int)).fRef.fTx == x1.fTx) && ((gt x0 (i : Int)).fRef.fAt == x1.fAt)) then some (i : Int) else none) = fun i : Nat => bif impl_findCoin_1_v (gt x0 (i : Int)) x1 == 0 then some (i : Int) else none := by
  funext i
  have : (((gt x0 (i : Int)).fRef.fTx == x1.fTx) && ((gt x0 (i : Int)).fRef.fAt == x1.fAt)) = (impl_findCoin_1_v (gt x0 (i : Int)) x1 == 0) := by
   rw [Bool.eq_iff_iff, Bool.and_eq_true, beq_iff_eq, beq_iff_eq, beq_iff_eq]; exact (hc0 i).symm
  rw [this]
 rw [e, key]
 rfl
theorem ref_ext {a b : Ref} (h1 : a.fTx = b.fTx) (h2 : a.fAt = b.fAt) : a = b := by
 cases a; cases b; simp only at h1 h2; subst h1; subst h2; rfl
theorem find_yes {x0 : List Coin} {r : Ref} (h : Rise x0) (hf : (impl_findCoin_v x0 r).2 = true) : gt x0 (impl_findCoin_v x0 r).1 ∈ x0 ∧ (gt x0 (impl_findCoin_v x0 r).1).fRef = r := by
 have hk := findCoin_key x0 r h.lt
 rw [hf, cond_true] at hk
 obtain ⟨i, hi, hp⟩ := List.exists_of_findSome?_eq_some hk
 have hlt : i < x0.length := by rw [List.mem_range'_1] at hi; omega
 cases hc : (((gt x0 (i : Int)).fRef.fTx == r.fTx) && ((gt x0 (i : Int)).fRef.fAt == r.fAt))
 ·rw [hc] at hp; cases hp
 ·rw [hc] at hp
  rw [← Option.some.inj hp]
  rw [Bool.and_eq_true, beq_iff_eq, beq_iff_eq] at hc
  exact ⟨gt_mem hlt, ref_ext hc.1 hc.2⟩
theorem find_no {x0 : List Coin} {r : Ref} (h : Rise x0) (hf : (impl_findCoin_v x0 r).2 = false) : ∀ c ∈ x0, c.fRef ≠ r := fun c hc e => by
 have hk := findCoin_key x0 r h.lt
 rw [hf, cond_false] at hk
 obtain ⟨i, hi, rfl⟩ := List.getElem_of_mem hc
 have := fs_all hk i hi
 rw [gt_eq (by simpa using hi)] at this
 simp only [Int.toNat_natCast] at this
 rw [e] at this
 simp at this
theorem find_of {x0 : List Coin} {c : Coin} (h : Rise x0) (hc : c ∈ x0) : (impl_findCoin_v x0 c.fRef).2 = true := by
 cases hf : (impl_findCoin_v x0 c.fRef).2
 ·exact absurd rfl (find_no h hf c hc)
 ·rfl
theorem three_all {a : Bool} {q : Int} {b : Bool} (h : (bif a then some (3 : Int) else bif q != 0 then some q else bif b then some 1 else none) = none) : a = false ∧ q = 0 := by
 cases a
 ·cases hq : q != 0
  ·exact ⟨rfl, by simpa using hq⟩
  ·rw [hq] at h; cases h
 ·cases h
def okC (c : Coin) : Prop := ((!(spec_l3Ref_v c.fRef)) || (!(bif (!(!(spec_l3Ref_v c.fRef))) then (spec_l2Height_v c.fHeight) else default))) = false ∧ spec_l4Out_v c.fOut = 0
theorem fault_parts {x0 : List Coin} (h : spec_l4Fault_v x0 = 0) : ∀ c ∈ x0, okC c := fun c hc => by
 unfold spec_l4Fault_v at h
 cases hd : decide (40 < (x0.length : Int))
 ·rw [hd] at h
  obtain ⟨h1, _⟩ := onO_zero h (fun i => three_ne _ _ _)
  obtain ⟨i, hi, rfl⟩ := List.getElem_of_mem hc
  have := three_all (fs_all h1 i hi)
  rw [gt_eq (by simpa using hi)] at this
  simp only [Int.toNat_natCast] at this
  exact this
 ·rw [hd] at h; exact absurd (show (2 : Int) = 0 from h) (by decide)
theorem fault_of {xs : List Coin} (hl : xs.length ≤ 40) (hc : ∀ c ∈ xs, okC c) (hr : Rise xs) : spec_l4Fault_v xs = 0 := by
 unfold spec_l4Fault_v
 have hd : decide (40 < (xs.length : Int)) = false := by simp; omega
 rw [hd, cond_false]
 have : (List.range' 0 (xs.length - 0)).findSome? (fun (i0 : Nat) => (bif ((!(spec_l3Ref_v ((gt xs (i0 : Int)).fRef))) || (!(bif (!(!(spec_l3Ref_v ((gt xs (i0 : Int)).fRef)))) then (spec_l2Height_v ((gt xs (i0 : Int)).fHeight)) else default))) then (some (3 : Int)) else (bif ((spec_l4Out_v ((gt xs (i0 : Int)).fOut)) != 0) then (some (spec_l4Out_v ((gt xs (i0 : Int)).fOut))) else (bif ((decide (0 < (i0 : Int))) && (!(bif (decide (0 < (i0 : Int))) then (spec_l4Ahead_v ((gt xs (wrap64 ((i0 : Int) - 1))).fRef) ((gt xs (i0 : Int)).fRef)) else default))) then (some 1) else none)))) = none := by
  rw [List.findSome?_eq_none_iff]
  intro i hi
  have hlt : i < xs.length := by rw [List.mem_range'_1] at hi; omega
  obtain ⟨a1, a2⟩ := hc _ (gt_mem hlt)
  rw [a1, a2, cond_false]
  have e0 : ((0 : Int) != 0) = false := rfl
  rw [e0, cond_false]
  by_cases h0 : 0 < i
  ·have e : wrap64 ((i : Int) - 1) = ((i - 1 : Nat) : Int) := by rw [wrap64_in _ (by omega)]; omega
   have := (ahead_lex _ _).2 (hr.lt (i - 1) i (by omega) hlt)
   rw [e, this]
   cases decide (0 < (i : Int)) <;> rfl
  ·have e : decide (0 < (i : Int)) = false := by simp; omega
   rw [e]; rfl
 rw [this]; rfl
theorem hasTx_same (x0 : List Coin) (x1 : Int) : impl_hasTx_v x0 x1 = spec_l4Of_v x0 x1 := by
 unfold impl_hasTx_v
 rw [slices_ContainsFunc_impl_Coin_any]
 simp only [spec_l4Of_v, impl_hasTx_1_v, found_any, bifb]
theorem outFault_same (o : Out) : impl_outFault_v o = spec_l4Out_v o := by
 simp only [impl_outFault_v, spec_l4Out_v, ruleFault_same, impl_within_v, spec_l1In_v]
theorem put_shape (c1 c2 c3 c4 : Bool) (fs : Option (List Coin × Int)) (A B : List Coin) (h : c3 = false → c4 = false → A = B) :
  (⟨(bif c1 then (([] : List Coin), (3 : Int)) else (bif c2 then (([] : List Coin), 2) else (onO fs (fun r => r) (bif c3 then (([] : List Coin), 7) else (bif c4 then (([] : List Coin), 2) else (A, 0)))))).2, (bif c1 then (([] : List Coin), (3 : Int)) else (bif c2 then (([] : List Coin), 2) else (onO fs (fun r => r) (bif c3 then (([] : List Coin), 7) else (bif c4 then (([] : List Coin), 2) else (A, 0)))))).1⟩ : CoinsResult)
   = (bif c1 then ⟨3, []⟩ else (bif c2 then ⟨2, []⟩ else (onO (fs.map fun r => (⟨r.2, r.1⟩ : CoinsResult)) (fun r => r) (bif c3 then ⟨7, []⟩ else (bif c4 then ⟨2, []⟩ else ⟨0, B⟩))))) := by
 cases c1
 ·cases c2
  ·cases fs with
   | some r => rfl
   | none =>
    cases c3
    ·cases c4
     ·rw [h rfl rfl]; rfl
     ·rfl
    ·rfl
  ·rfl
 ·rfl
theorem outs_map (x2 : List Out) : ∀ (l : List Nat), (l.findSome? (fun (i0 : Nat) => (bif ((spec_l4Out_v (gt x2 (i0 : Int))) != 0) then (some ((⟨(spec_l4Out_v (gt x2 (i0 : Int))), ([] : List Coin)⟩ : CoinsResult))) else none))) = (l.findSome? (fun (i0 : Nat) => (bif ((spec_l4Out_v (gt x2 (i0 : Int))) != 0) then (some (([] : List Coin), (spec_l4Out_v (gt x2 (i0 : Int))))) else none))).map (fun r => ⟨r.2, r.1⟩)
 | [] => rfl
 | a :: l => by
  rw [List.findSome?_cons, List.findSome?_cons]
  cases (spec_l4Out_v (gt x2 (a : Int))) != 0
  ·simpa using outs_map x2 l
  ·rfl
theorem putCoins_eq (x0 : List Coin) (x1 : Int) (x2 : List Out) (x3 : Int) (x4 : Bool) (h0 : Lm smCoin x0) (h : spec_l4Fault_v x0 = 0) : (⟨(impl_putCoins_v x0 x1 x2 x3 x4).2, (impl_putCoins_v x0 x1 x2 x3 x4).1⟩ : CoinsResult) = spec_PutCoins_v x0 x1 x2 x3 x4 := by
 have e4 : impl_isId_v x1 = spec_l1In_v x1 1 60 := rfl
 have e5 : impl_isHeight_v x3 = spec_l2Height_v x3 := rfl
 have hf : (spec_l4Fault_v x0 != 0) = false := by rw [h]; rfl
 unfold spec_PutCoins_v impl_putCoins_v
 rw [hf, hasTx_same, e4, e5, outs_map]
 simp only [cond_false, outFault_same]
 exact put_shape _ _ _ _ _ _ _ (fun ho _ => (l4Put_sort x0 x1 x2 x3 x4 (rise_of h0 h) (hasTx_no (by rw [hasTx_same]; exact ho))).2.1)
theorem put_sm (x0 : List Coin) (x1 : Int) (x2 : List Out) (x3 : Int) (x4 : Bool) (h0 : Lm smCoin x0) (h2 : Lm smOut x2) (hl : x0.length + x2.length ≤ 1048576) : Lm smCoin (spec_l4Put_v x0 x1 x2 x3 x4) := by
 have hp : (spec_l4Put_v x0 x1 x2 x3 x4).Perm (x0 ++ news x1 x3 x4 x2) := l4Put_perm x1 x3 x4 x2 _ x0
 refine ⟨?_, fun c hc => ?_⟩
 ·rw [hp.length_eq]; unfold news; simp; omega
 ·rcases List.mem_append.1 (hp.mem_iff.1 hc) with hc | hc
  ·exact h0.2 c hc
  ·obtain ⟨i, hi, rfl⟩ := List.mem_map.1 hc
   have hlt : i < x2.length := by rw [List.mem_range'_1] at hi; omega
   exact ⟨⟨trivial, trivial⟩, h2.2 _ (gt_mem hlt), trivial, trivial⟩
def refB (a b : Ref) : Bool := (a.fTx == b.fTx) && (a.fAt == b.fAt)
theorem refB_iff {a b : Ref} : refB a b = true ↔ a = b := by
 unfold refB
 rw [Bool.and_eq_true, beq_iff_eq, beq_iff_eq]
 exact ⟨fun h => ref_ext h.1 h.2, fun h => by subst h; exact ⟨rfl, rfl⟩⟩
theorem rise_uniq {xs ys : List Coin} (hp : ys.Perm xs) (hx : xs.Pairwise fun a b => lexL a.fRef b.fRef) (hy : ys.Pairwise fun a b => lexL a.fRef b.fRef) : xs = ys := (sort_uniq (.refl xs) hx).symm.trans (sort_uniq hp hy)
def notIn (ins : List Ref) (c : Coin) : Bool := !(ins.any fun r => refB c.fRef r)
theorem notIn_cons (r : Ref) (rs : List Ref) (c : Coin) : notIn (r :: rs) c = (notIn rs c && !(refB c.fRef r)) := by
 unfold notIn
 rw [List.any_cons]
 cases refB c.fRef r <;> cases (rs.any fun r => refB c.fRef r) <;> rfl
theorem lexL_irr {a : Ref} (h : lexL a a) : False := by unfold lexL at h; omega
theorem take_one {s : List Coin} {r : Ref} (h : Rise s) (hf : (impl_findCoin_v s r).2 = true) : takeG2 s r = some (s.filter fun c => !(refB c.fRef r)) := by
 have hin := findCoin_in s r (by rw [hf]; rfl)
 obtain ⟨h1, h2⟩ := find_yes h hf
 have h3 := idx_lo hin
 have h4 := idx_hi hin
 have hl := h.1
 have ew : wrap64 ((impl_findCoin_v s r).1 + 1) = (impl_findCoin_v s r).1 + 1 := wrap64_in _ (by omega)
 unfold takeG2
 rw [hf, ew]
 unfold slices_Delete_impl_Coin_v
 have e2 : ((impl_findCoin_v s r).1 == (impl_findCoin_v s r).1 + 1) = false := by simp; omega
 rw [e2]
 simp only [Bool.not_true, cond_false]
 obtain ⟨n, en⟩ : ∃ n : Nat, (impl_findCoin_v s r).1 = (n : Int) := ⟨_, (Int.toNat_of_nonneg h3).symm⟩
 rw [en] at h2 h4 ⊢
 have hn : n < s.length := by omega
 have e3 : ((n : Int) + 1).toNat = n + 1 := by omega
 rw [e3, Int.toNat_natCast]
 congr 1
 have es : s.take n ++ (gt s (n : Int) :: s.drop (n + 1)) = s := by
  rw [gt_eq (by simpa using hn)]; simp only [Int.toNat_natCast]
  rw [← List.drop_eq_getElem_cons hn, List.take_append_drop]
 have hp := h.2
 rw [← es, List.pairwise_append] at hp
 obtain ⟨_, hp2, hp3⟩ := hp
 rw [List.pairwise_cons] at hp2
 have f1 : (s.take n).filter (fun c => !(refB c.fRef r)) = s.take n := List.filter_eq_self.2 fun c hc => by
  have h5 := hp3 c hc _ (List.mem_cons_self)
  rw [h2] at h5
  cases hq : refB c.fRef r
  ·rfl
  ·rw [refB_iff.1 hq] at h5; exact absurd h5 lexL_irr
 have f2 : (s.drop (n + 1)).filter (fun c => !(refB c.fRef r)) = s.drop (n + 1) := List.filter_eq_self.2 fun c hc => by
  have h5 := hp2.1 c hc
  rw [h2] at h5
  cases hq : refB c.fRef r
  ·rfl
  ·rw [refB_iff.1 hq] at h5; exact absurd h5 lexL_irr
 have f3 : ¬ (fun c : Coin => !(refB c.fRef r)) (gt s (n : Int)) = true := by
  have : refB (gt s (n : Int)).fRef r = true := refB_iff.2 h2
  simp [this]
 have e4 : s.filter (fun c => !(refB c.fRef r)) = (s.take n ++ (gt s (n : Int) :: s.drop (n + 1))).filter (fun c => !(refB c.fRef r)) := by rw [es]
 rw [e4, List.filter_append, List.filter_cons_of_neg (p := fun c : Coin => !(refB c.fRef r)) f3, f1, f2]
theorem take_all : ∀ (ins : List Ref) (s : List Coin), Rise s → ins.Nodup → (∀ r ∈ ins, (impl_findCoin_v s r).2 = true) → stepAll takeG2 s ins = some (s.filter (notIn ins))
 | [], s, _, _, _ => by
  have : s.filter (notIn []) = s := List.filter_eq_self.2 fun c _ => rfl
  rw [this]; rfl
 | r :: rs, s, h, hn, hf => by
  rw [List.nodup_cons] at hn
  have hs : (s.filter fun c => !(refB c.fRef r)).Sublist s := List.filter_sublist
  simp only [stepAll, take_one h (hf r (by simp))]
  rw [take_all rs _ (h.sub hs) hn.2 fun q hq => by
   obtain ⟨h1, h2⟩ := find_yes h (hf q (by simp [hq]))
   have h3 : gt s (impl_findCoin_v s q).1 ∈ s.filter fun c => !(refB c.fRef r) := List.mem_filter.2 ⟨h1, by
    rw [h2]
    cases hb : refB q r
    ·rfl
    ·rw [refB_iff.1 hb] at hq; exact absurd hq hn.1⟩
   have := find_of (h.sub hs) h3
   rwa [h2] at this]
  rw [List.filter_filter]
  congr 1
  exact List.filter_congr fun c _ => (notIn_cons r rs c).symm
theorem mem_notIn {ins : List Ref} {c : Coin} : notIn ins c = false ↔ c.fRef ∈ ins := by
 unfold notIn
 rw [Bool.not_eq_false', List.any_eq_true]
 exact ⟨fun ⟨r, h1, h2⟩ => by rw [refB_iff.1 h2]; exact h1, fun h => ⟨_, h, refB_iff.2 rfl⟩⟩
theorem takeCoins_all {s : List Coin} {ins : List Ref} (h : Rise s) (hn : ins.Nodup) (hf : ∀ r ∈ ins, (impl_findCoin_v s r).2 = true) : impl_takeCoins_v s ins = (s.filter (notIn ins), 0) := by
 unfold impl_takeCoins_v
 rw [ownCoins_id, take_all ins s h hn hf]
theorem news_tx {x1 x3 : Int} {x4 : Bool} {x2 : List Out} : ∀ c ∈ news x1 x3 x4 x2, c.fRef.fTx = x1 := fun c hc => by
 obtain ⟨i, _, rfl⟩ := List.mem_map.1 hc
 rfl
theorem news_rise (x1 x3 : Int) (x4 : Bool) (x2 : List Out) : (news x1 x3 x4 x2).Pairwise fun a b => lexL a.fRef b.fRef := by
 unfold news
 rw [List.pairwise_map]
 refine (List.pairwise_lt_range' (s := 0) (n := x2.length) (step := 1)).imp fun {a b} hab => ?_
 exact .inr ⟨rfl, by show (a : Int) < (b : Int); omega⟩
structure PutOK (x0 : List Coin) (x1 : Int) (x2 : List Out) (x3 : Int) (x4 : Bool) : Prop where
 f0 : spec_l4Fault_v x0 = 0
 id : spec_l1In_v x1 1 60 = true
 height : spec_l2Height_v x3 = true
 l2 : x2.length ≤ 4
 outs : ∀ o ∈ x2, spec_l4Out_v o = 0
 no : ∀ c ∈ x0, c.fRef.fTx ≠ x1
 l40 : x0.length + x2.length ≤ 40
 val : spec_PutCoins_v x0 x1 x2 x3 x4 = ⟨0, spec_l4Put_v x0 x1 x2 x3 x4⟩
theorem put_ok (x0 : List Coin) (x1 : Int) (x2 : List Out) (x3 : Int) (x4 : Bool) (h0 : Lm smCoin x0) (h2 : Lm smOut x2) (h : (spec_PutCoins_v x0 x1 x2 x3 x4).fCode = 0) : PutOK x0 x1 x2 x3 x4 := by
 have hv := h
 have l0 := h0.1
 have l2 := h2.1
 unfold spec_PutCoins_v at h
 cases hf : (spec_l4Fault_v x0) != 0
 ·rw [hf, cond_false] at h
  cases hi : spec_l1In_v x1 1 60
  ·rw [hi] at h; exact absurd (show (3 : Int) = 0 from h) (by decide)
  ·cases hh : spec_l2Height_v x3
   ·rw [hi, hh] at h; exact absurd (show (3 : Int) = 0 from h) (by decide)
   ·rw [hi, hh] at h
    cases h4 : decide (4 < (x2.length : Int))
    ·rw [h4] at h
     have h' : (onO ((List.range' 0 (x2.length - 0)).findSome? (fun (i0 : Nat) => (bif ((spec_l4Out_v (gt x2 (i0 : Int))) != 0) then (some (⟨(spec_l4Out_v (gt x2 (i0 : Int))), ([] : List Coin)⟩ : CoinsResult)) else none))) (fun r => r) (bif (spec_l4Of_v x0 x1) then (⟨7, ([] : List Coin)⟩ : CoinsResult) else (bif (decide (40 < (wrap64 ((x0.length : Int) + (x2.length : Int))))) then (⟨2, ([] : List Coin)⟩ : CoinsResult) else (⟨0, spec_l4Put_v x0 x1 x2 x3 x4⟩ : CoinsResult)))).fCode = 0 := h
     cases hq : (List.range' 0 (x2.length - 0)).findSome? (fun (i0 : Nat) => (bif ((spec_l4Out_v (gt x2 (i0 : Int))) != 0) then (some (⟨(spec_l4Out_v (gt x2 (i0 : Int))), ([] : List Coin)⟩ : CoinsResult)) else none)) with
     | some z =>
      obtain ⟨i, _, hz⟩ := List.exists_of_findSome?_eq_some hq
      rw [hq] at h'
      cases ho : (spec_l4Out_v (gt x2 (i : Int))) != 0
      ·rw [ho] at hz; cases hz
      ·rw [ho] at hz
       have hz' := Option.some.inj hz
       subst hz'
       have h5 : spec_l4Out_v (gt x2 (i : Int)) = 0 := h'
       rw [h5] at ho; cases ho
     | none =>
      rw [hq] at h'
      have hout : ∀ o ∈ x2, spec_l4Out_v o = 0 := fun o ho => by
       obtain ⟨i, hi', rfl⟩ := List.getElem_of_mem ho
       have h5 := fs_all hq i hi'
       rw [gt_eq (by simpa using hi')] at h5
       simp only [Int.toNat_natCast] at h5
       cases h6 : (spec_l4Out_v x2[i]) != 0
       ·simpa using h6
       ·rw [h6] at h5; cases h5
      cases ht : spec_l4Of_v x0 x1
      ·rw [ht] at h'
       cases hw : decide (40 < (wrap64 ((x0.length : Int) + (x2.length : Int))))
       ·have ew : wrap64 ((x0.length : Int) + (x2.length : Int)) = (x0.length : Int) + (x2.length : Int) := wrap64_in _ (by omega)
        refine ⟨by simpa using hf, hi, hh, by have := of_decide_eq_false h4; omega, hout, hasTx_no (by rw [hasTx_same]; exact ht), by rw [ew] at hw; have := of_decide_eq_false hw; omega, ?_⟩
        unfold spec_PutCoins_v
        rw [hf, hi, hh, h4, hq, ht, hw]
        rfl
       ·rw [hw] at h'; exact absurd (show (2 : Int) = 0 from h') (by decide)
      ·rw [ht] at h'; exact absurd (show (7 : Int) = 0 from h') (by decide)
    ·rw [h4] at h; exact absurd (show (2 : Int) = 0 from h) (by decide)
 ·rw [hf, cond_true] at h
  have h5 : spec_l4Fault_v x0 = 0 := h
  rw [h5] at hf; cases hf
section put
variable {x0 : List Coin} {x1 : Int} {x2 : List Out} {x3 : Int} {x4 : Bool}
theorem PutOK.perm (h : PutOK x0 x1 x2 x3 x4) : (spec_l4Put_v x0 x1 x2 x3 x4).Perm (x0 ++ news x1 x3 x4 x2) := l4Put_perm x1 x3 x4 x2 _ x0
theorem PutOK.rise (h : PutOK x0 x1 x2 x3 x4) (h0 : Lm smCoin x0) : Rise (spec_l4Put_v x0 x1 x2 x3 x4) := by
 have hl := h.l40
 refine ⟨?_, (l4Put_sort x0 x1 x2 x3 x4 (rise_of h0 h.f0) h.no).1⟩
 rw [h.perm.length_eq]; unfold news; simp; omega
theorem PutOK.len (h : PutOK x0 x1 x2 x3 x4) : (spec_l4Put_v x0 x1 x2 x3 x4).length = x0.length + x2.length := by
 rw [h.perm.length_eq]; unfold news; simp
theorem PutOK.sm (h : PutOK x0 x1 x2 x3 x4) (h0 : Lm smCoin x0) (h2 : Lm smOut x2) : Lm smCoin (spec_l4Put_v x0 x1 x2 x3 x4) := put_sm x0 x1 x2 x3 x4 h0 h2 (by have := h.l40; omega)
theorem PutOK.okc (h : PutOK x0 x1 x2 x3 x4) : ∀ c ∈ spec_l4Put_v x0 x1 x2 x3 x4, okC c := fun c hc => by
 rcases List.mem_append.1 (h.perm.mem_iff.1 hc) with hc | hc
 ·exact fault_parts h.f0 c hc
 ·obtain ⟨i, hi, rfl⟩ := List.mem_map.1 hc
  have hlt : i < x2.length := by rw [List.mem_range'_1] at hi; omega
  have hl := h.l2
  have e1 : spec_l3Ref_v (newAt x1 x3 x4 x2 i).fRef = true := by
   show ((spec_l1In_v x1 1 60) && (bif (spec_l1In_v x1 1 60) then (spec_l1In_v (i : Int) 0 3) else default)) = true
   rw [h.id]
   show (true && spec_l1In_v (i : Int) 0 3) = true
   rw [Bool.true_and]
   unfold spec_l1In_v
   rw [Bool.and_eq_true, decide_eq_true_eq, decide_eq_true_eq]; omega
  have e2 : spec_l2Height_v (newAt x1 x3 x4 x2 i).fHeight = true := h.height
  refine ⟨?_, h.outs _ (gt_mem hlt)⟩
  rw [e1, e2]; rfl
theorem PutOK.fault (h : PutOK x0 x1 x2 x3 x4) (h0 : Lm smCoin x0) : spec_l4Fault_v (spec_l4Put_v x0 x1 x2 x3 x4) = 0 := fault_of (by rw [h.len]; exact h.l40) h.okc (h.rise h0)
theorem PutOK.old (h : PutOK x0 x1 x2 x3 x4) (h0 : Lm smCoin x0) : (spec_l4Put_v x0 x1 x2 x3 x4).filter (fun c => c.fRef.fTx != x1) = x0 := by
 have hp := h.perm.filter (fun c => c.fRef.fTx != x1)
 rw [List.filter_append] at hp
 have e1 : x0.filter (fun c => c.fRef.fTx != x1) = x0 := List.filter_eq_self.2 fun c hc => by simpa using h.no c hc
 have e2 : (news x1 x3 x4 x2).filter (fun c => c.fRef.fTx != x1) = [] := List.filter_eq_nil_iff.2 fun c hc => by simp [news_tx c hc]
 rw [e1, e2, List.append_nil] at hp
 exact (rise_uniq hp (rise_of h0 h.f0).2 ((h.rise h0).2.sublist List.filter_sublist)).symm
theorem PutOK.new (h : PutOK x0 x1 x2 x3 x4) (h0 : Lm smCoin x0) : (spec_l4Put_v x0 x1 x2 x3 x4).filter (fun c => c.fRef.fTx == x1) = news x1 x3 x4 x2 := by
 have hp := h.perm.filter (fun c => c.fRef.fTx == x1)
 rw [List.filter_append] at hp
 have e1 : x0.filter (fun c => c.fRef.fTx == x1) = [] := List.filter_eq_nil_iff.2 fun c hc => by simpa using h.no c hc
 have e2 : (news x1 x3 x4 x2).filter (fun c => c.fRef.fTx == x1) = news x1 x3 x4 x2 := List.filter_eq_self.2 fun c hc => by simp [news_tx c hc]
 rw [e1, e2, List.nil_append] at hp
 exact (rise_uniq hp (news_rise x1 x3 x4 x2) ((h.rise h0).2.sublist List.filter_sublist)).symm
end put
theorem coinAt_no {xs : List Coin} {r : Ref} (hr : Rise xs) (hf : spec_l4Fault_v xs = 0) (hn : ∀ c ∈ xs, c.fRef ≠ r) : impl_CoinAt_v xs r = ⟨4, []⟩ := by
 have hy : (impl_findCoin_v xs r).2 = false := by
  cases h : (impl_findCoin_v xs r).2
  ·rfl
  ·obtain ⟨h1, h2⟩ := find_yes hr h
   exact absurd h2 (hn _ h1)
 unfold impl_CoinAt_v
 rw [coinsFault_same, hf, hy]; rfl
theorem sumf_refl {n : Nat} {p : Nat → Bool} (h : ∀ i, p i = false) : (List.range' 0 (n - 0)).findSome? (fun (i0 : Nat) => (bif p i0 then (some false) else none)) = none := by
 rw [List.findSome?_eq_none_iff]
 intro i _
 rw [h]; rfl
theorem ints_refl (xs : List Int) : slices_Equal_int64_v xs xs = true := by
 unfold slices_Equal_int64_v
 have e : ((xs.length : Int) != (xs.length : Int)) = false := by simp
 rw [e, cond_false, sumf_refl (fun i => by simp)]; rfl
theorem sameOut_refl (o : Out) : impl_sameOuts_v o o = true := by
 unfold impl_sameOuts_v impl_SameRules_v
 simp [ints_refl]
theorem sameCoins_refl (xs : List Coin) : impl_SameCoins_v xs xs = true := by
 unfold impl_SameCoins_v slices_EqualFunc_impl_Coin_v
 have e : ((xs.length : Int) != (xs.length : Int)) = false := by simp
 have e2 : ∀ c : Coin, impl_sameCoin_v c c = true := fun c => by unfold impl_sameCoin_v; simp [sameOut_refl]
 rw [e, cond_false, sumf_refl (fun i => by rw [e2]; rfl)]; rfl
theorem l4Right_loop (c : List Int) (z : l1Src) (hz : z.fCode = c) (hc : codeOK c) : ∀ (d : Nat) (a : Int) (xs : List Coin), 0 ≤ a → a + 50 * d ≤ 600000 → Lm smCoin xs → xs.length ≤ 40 → ∃ a' xs', Evt (fun k => spec_l4Right.l0 z k a xs (d : Int)) (a', xs') ∧ a ≤ a' ∧ a' ≤ a + 50 * d ∧ Lm smCoin xs' ∧ xs'.length ≤ 40
 | 0, a, xs, h0, h1, h2, h3 => by
  refine ⟨a, xs, Evt.s ?_, by omega, by omega, h2, h3⟩
  simp only [spec_l4Right.l0.eq_2]
  exact Evt.f rfl (Evt.self _)
 | d + 1, a, xs, h0, h1, h2, h3 => by
  obtain ⟨v, ev, v0, v1⟩ := next_ev c a 6 hc (by omega) (by omega)
  obtain ⟨os, a1, eo, p1, q1, ol, osm⟩ := l4DrawOuts_ev c (a + 1) hc (by omega) (by omega)
  obtain ⟨u, eu, u0, u1⟩ := next_ev c a1 6 hc (by omega) (by omega)
  obtain ⟨b, eb⟩ := chance_ev c (a1 + 1) 3 hc (by omega) (by omega)
  have ep := spec_PutCoins_ev xs (wrap64 (1 + v)) os u b h2 osm
  have hd : decide ((0 : Int) < ((d + 1 : Nat) : Int)) = true := decide_eq_true (by omega)
  have ew : wrap64 (((d + 1 : Nat) : Int) - 1) = (d : Int) := by rw [wrap64_in _ (by omega)]; omega
  cases hq : (spec_PutCoins_v xs (wrap64 (1 + v)) os u b).fCode == 0
  ·obtain ⟨a', xs', e, q2, q3, q4, q5⟩ := l4Right_loop c z hz hc d (a1 + 1 + 1) xs (by omega) (by omega) h2 h3
   refine ⟨a', xs', Evt.s ?_, by omega, by omega, q4, q5⟩
   simp only [spec_l4Right.l0.eq_2, hz, ew]
   exact Evt.t hd (Evt.bind ev (Evt.bind eo (Evt.bind eu (Evt.bind eb (Evt.bind ep (Evt.f hq e))))))
  ·have hk := put_ok xs _ os u b h2 osm (by simpa using hq)
   obtain ⟨a', xs', e, q2, q3, q4, q5⟩ := l4Right_loop c z hz hc d (a1 + 1 + 1) (spec_PutCoins_v xs (wrap64 (1 + v)) os u b).fCoins (by omega) (by omega) (by rw [hk.val]; exact hk.sm h2 osm) (by rw [hk.val]; show (spec_l4Put_v _ _ _ _ _).length ≤ 40; rw [hk.len]; exact hk.l40)
   refine ⟨a', xs', Evt.s ?_, by omega, by omega, q4, q5⟩
   simp only [spec_l4Right.l0.eq_2, hz, ew]
   exact Evt.t hd (Evt.bind ev (Evt.bind eo (Evt.bind eu (Evt.bind eb (Evt.bind ep (Evt.t hq e))))))
theorem l4Right_ev (c : List Int) (a : Int) (hc : codeOK c) (h0 : 0 ≤ a) (h1 : a ≤ 500000) : ∃ xs a', Evt (fun k => spec_l4Right.f k ⟨c, a⟩) (xs, a') ∧ a ≤ a' ∧ a' ≤ a + 260 ∧ Lm smCoin xs ∧ xs.length ≤ 40 := by
 obtain ⟨v, e, v0, v1⟩ := next_ev c a 6 hc (by omega) (by omega)
 obtain ⟨n, rfl⟩ : ∃ n : Nat, v = n := ⟨v.toNat, by omega⟩
 obtain ⟨a', xs, e2, r1, r2, r3, r4⟩ := l4Right_loop c ⟨c, a⟩ rfl hc n (a + 1) [] (by omega) (by omega) ⟨by simp, by simp⟩ (by simp)
 exact ⟨xs, a', Evt.bindc (Evt.bind e e2) (Evt.self _), by omega, by omega, r3, r4⟩
def spec_l3Among_v (x0 : List Ref) (x1 : Ref) : Bool := (onO ((List.range' 0 (x0.length - 0)).findSome? (fun (i0 : Nat) => (bif ((((gt x0 (i0 : Int)).fTx) == x1.fTx) && (((gt x0 (i0 : Int)).fAt) == x1.fAt)) then (some true) else none))) (fun r => r) false)
theorem spec_l3Among_ev (x0 : List Ref) (x1 : Ref) (h_x0 : (Lm smRef) x0) : Evt (fun k => spec_l3Among.f k x0 x1) (spec_l3Among_v x0 x1) :=
 (Evt.loop (r' := fun r => r) (Evt.srch (L := (fun k i => spec_l3Among.l0 x0 x1 k i)) 0 x0.length (by have := h_x0; first | (have := this.1; omega) | omega) (fun (i0 : Nat) => (bif ((((gt x0 (i0 : Int)).fTx) == x1.fTx) && (((gt x0 (i0 : Int)).fAt) == x1.fAt)) then (some true) else none)) (fun i0 hs2 hi2 => by
 have hbn : x0.length ≤ 9223372036854775807 := (by have := h_x0; first | (have := this.1; omega) | omega)
 simp only [spec_l3Among.l0.eq_2]
 exact Evt_t2 (int_lt hi2) (StE.chk (by first | exact idx_ok (by omega) | exact idx_ok (by have hq := len_eq (by assumption); omega) | exact idx_found (show (0 : Int) ≤ (i0 : Int) by simp_all) | exact cut_ok (by omega) | exact or_ok (idx_ok (by omega)) | (refine or1 (fun hz => pre_ok (by simp at hz; omega) (by omega) (by omega))) | exact pre_ok (by omega) (by omega) (by omega) | (simp_all [idxOk, cutOk, leB]; done) | (simp_all [idxOk, cutOk, leB]; omega) | (simp [idxOk, cutOk, leB] at *; omega) | (have hf0 := h_x0.1; simp only [leB, decide_eq_true_eq, List.length_append, List.length_cons, List.length_nil]; omega)) (StE.ifh (fun hc1 => (StE.ret _)) (fun hc1 => StE.next)))) (fun j hj => by
 simp only [spec_l3Among.l0.eq_2]
 exact Evt.f (ge_lt hj) (Evt.self _))) (fun _ => rfl) (Evt.self _))
def spec_l3Outs_v (x0 : Tx) : Int := (onO ((List.range' 0 (x0.fOuts.length - 0)).findSome? (fun (i0 : Nat) => (bif !(spec_l1In_v ((gt x0.fOuts (i0 : Int)).fValue) 1 1000000) then (some 3) else (bif ((spec_l2Fault_v ((gt x0.fOuts (i0 : Int)).fRule)) != 0) then (some (spec_l2Fault_v ((gt x0.fOuts (i0 : Int)).fRule))) else none)))) (fun r => r) (bif ((x0.fKind == 1) && (decide (((gt x0.fOuts (0 : Int)).fValue) < 100))) then 8 else 0))
theorem spec_l3Outs_ev (x0 : Tx) (h_x0 : smTx x0) (hpre : 0 < x0.fOuts.length) : Evt (fun k => spec_l3Outs.f k x0) (spec_l3Outs_v x0) :=
 (Evt.loop (r' := fun r => r) (Evt.srch (L := (fun k i => spec_l3Outs.l0 x0 k i)) 0 x0.fOuts.length (by have := h_x0.2.2.2; first | (have := this.1; omega) | omega) (fun (i0 : Nat) => (bif !(spec_l1In_v ((gt x0.fOuts (i0 : Int)).fValue) 1 1000000) then (some 3) else (bif ((spec_l2Fault_v ((gt x0.fOuts (i0 : Int)).fRule)) != 0) then (some (spec_l2Fault_v ((gt x0.fOuts (i0 : Int)).fRule))) else none))) (fun i0 hs3 hi3 => by
 have hbn : x0.fOuts.length ≤ 9223372036854775807 := (by have := h_x0.2.2.2; first | (have := this.1; omega) | omega)
 simp only [spec_l3Outs.l0.eq_2]
 exact Evt_t2 (int_lt hi3) (StE.chk (by first | exact idx_ok (by omega) | exact idx_ok (by have hq := len_eq (by assumption); omega) | exact idx_found (show (0 : Int) ≤ (i0 : Int) by simp_all) | exact cut_ok (by omega) | exact or_ok (idx_ok (by omega)) | (refine or1 (fun hz => pre_ok (by simp at hz; omega) (by omega) (by omega))) | exact pre_ok (by omega) (by omega) (by omega) | (simp_all [idxOk, cutOk, leB]; done) | (simp_all [idxOk, cutOk, leB]; omega) | (simp [idxOk, cutOk, leB] at *; omega) | (simp_all [idxOk]; omega) | (simp [idxOk]; omega) | (have hf0 := h_x0.2.2.1.1; have hf1 := h_x0.2.2.2.1; simp only [leB, decide_eq_true_eq, List.length_append, List.length_cons, List.length_nil]; omega)) (StE.bind (spec_l1In_ev ((gt x0.fOuts (i0 : Int)).fValue) 1 1000000) (StE.ifh (fun hc2 => (StE.ret _)) (fun hc2 => (StE.chk (by first | exact idx_ok (by omega) | exact idx_ok (by have hq := len_eq (by assumption); omega) | exact idx_found (show (0 : Int) ≤ (i0 : Int) by simp_all) | exact cut_ok (by omega) | exact or_ok (idx_ok (by omega)) | (refine or1 (fun hz => pre_ok (by simp at hz; omega) (by omega) (by omega))) | exact pre_ok (by omega) (by omega) (by omega) | (simp_all [idxOk, cutOk, leB]; done) | (simp_all [idxOk, cutOk, leB]; omega) | (simp [idxOk, cutOk, leB] at *; omega) | (simp_all [idxOk]; omega) | (simp [idxOk]; omega) | (have hf0 := h_x0.2.2.1.1; have hf1 := h_x0.2.2.2.1; simp only [leB, decide_eq_true_eq, List.length_append, List.length_cons, List.length_nil]; omega)) (StE.bind (spec_l2Fault_ev ((gt x0.fOuts (i0 : Int)).fRule) (((h_x0.2.2.2).2 _ (gt_mem (by first | omega | (have hq := len_eq (by assumption); omega) | (simp_all [idxOk]; omega) | (simp [idxOk]; omega) | (have hf0 := h_x0.2.2.1.1; have hf1 := h_x0.2.2.2.1; simp only [leB, decide_eq_true_eq, List.length_append, List.length_cons, List.length_nil]; omega)))).2)) (StE.ifh (fun hc1 => (StE.ret _)) (fun hc1 => StE.next))))))))) (fun j hj => by
 simp only [spec_l3Outs.l0.eq_2]
 exact Evt.f (ge_lt hj) (Evt.self _))) (fun _ => rfl) (Evt.chk (by first | exact idx_ok (by omega) | exact idx_ok (by have hq := len_eq (by assumption); omega) | exact idx_found (by simp_all) | exact cut_ok (by omega) | exact or_ok (idx_ok (by omega)) | (refine or1 (fun hz => pre_ok (by simp at hz; omega) (by omega) (by omega))) | exact pre_ok (by omega) (by omega) (by omega) | (simp_all [idxOk, cutOk, leB]; done) | (simp_all [idxOk, cutOk, leB]; omega) | (simp [idxOk, cutOk, leB] at *; omega) | (simp_all [idxOk]; omega) | (simp [idxOk]; omega) | (have hf0 := h_x0.2.2.1.1; have hf1 := h_x0.2.2.2.1; simp only [leB, decide_eq_true_eq, List.length_append, List.length_cons, List.length_nil]; omega)) (Evt.ifh (fun hc3 => (Evt.self _)) (fun hc3 => (Evt.self _)))))
def spec_l3Fault_v (x0 : Tx) : Int := (bif ((!(spec_l1In_v x0.fKind 0 2)) || ((x0.fKind == 0) != (x0.fMember == 0))) then 1 else (bif ((x0.fKind != 0) && (!(bif (x0.fKind != 0) then (spec_l1Key_v x0.fMember) else default))) then 3 else (bif ((!(spec_l1In_v (x0.fIns.length : Int) 1 4)) || (!(bif (!(!(spec_l1In_v (x0.fIns.length : Int) 1 4))) then (spec_l1In_v (x0.fOuts.length : Int) 1 4) else default))) then 2 else (onO ((List.range' 0 (x0.fIns.length - 0)).findSome? (fun (i0 : Nat) => (bif !(spec_l3Ref_v (gt x0.fIns (i0 : Int))) then (some 3) else (bif (spec_l3Among_v (x0.fIns.take ((i0 : Int)).toNat) (gt x0.fIns (i0 : Int))) then (some 7) else none)))) (fun r => r) (spec_l3Outs_v x0)))))
theorem spec_l3Fault_ev (x0 : Tx) (h_x0 : smTx x0) : Evt (fun k => spec_l3Fault.f k x0) (spec_l3Fault_v x0) :=
 (Evt.bind (spec_l1In_ev x0.fKind 0 2) (Evt.ifh (fun hc5 => (Evt.self _)) (fun hc5 => (Evt.bind (Evt.ifh (fun _ => (spec_l1Key_ev x0.fMember)) (fun _ => Evt.self _)) (Evt.ifh (fun hc4 => (Evt.self _)) (fun hc4 => (Evt.bind (spec_l1In_ev (x0.fIns.length : Int) 1 4) (Evt.bind (Evt.ifh (fun _ => (spec_l1In_ev (x0.fOuts.length : Int) 1 4)) (fun _ => Evt.self _)) (Evt.ifh (fun hc3 => (Evt.self _)) (fun hc3 => (Evt.loop (r' := fun r => r) (Evt.srch (L := (fun k i => spec_l3Fault.l0 x0 k i)) 0 x0.fIns.length (by have := h_x0.2.2.1; first | (have := this.1; omega) | omega) (fun (i0 : Nat) => (bif !(spec_l3Ref_v (gt x0.fIns (i0 : Int))) then (some 3) else (bif (spec_l3Among_v (x0.fIns.take ((i0 : Int)).toNat) (gt x0.fIns (i0 : Int))) then (some 7) else none))) (fun i0 hs3 hi3 => by
 have hbn : x0.fIns.length ≤ 9223372036854775807 := (by have := h_x0.2.2.1; first | (have := this.1; omega) | omega)
 simp only [spec_l3Fault.l0.eq_2]
 exact Evt_t2 (int_lt hi3) (StE.chk (by first | exact idx_ok (by omega) | exact idx_ok (by have hq := len_eq (by assumption); omega) | exact idx_found (show (0 : Int) ≤ (i0 : Int) by simp_all) | exact cut_ok (by omega) | exact or_ok (idx_ok (by omega)) | (refine or1 (fun hz => pre_ok (by simp at hz; omega) (by omega) (by omega))) | exact pre_ok (by omega) (by omega) (by omega) | (simp_all [idxOk, cutOk, leB]; done) | (simp_all [idxOk, cutOk, leB]; omega) | (simp [idxOk, cutOk, leB] at *; omega) | (simp_all [spec_l1In_v]; omega) | (have hf0 := h_x0.2.2.1.1; have hf1 := h_x0.2.2.2.1; simp only [leB, decide_eq_true_eq, List.length_append, List.length_cons, List.length_nil]; omega)) (StE.bind (spec_l3Ref_ev (gt x0.fIns (i0 : Int))) (StE.ifh (fun hc2 => (StE.ret _)) (fun hc2 => (StE.chk (by first | exact idx_ok (by omega) | exact idx_ok (by have hq := len_eq (by assumption); omega) | exact idx_found (by simp_all) | exact cut_ok (by omega) | exact or_ok (idx_ok (by omega)) | (refine or1 (fun hz => pre_ok (by simp at hz; omega) (by omega) (by omega))) | exact pre_ok (by omega) (by omega) (by omega) | (simp_all [idxOk, cutOk, leB]; done) | (simp_all [idxOk, cutOk, leB]; omega) | (simp [idxOk, cutOk, leB] at *; omega) | (simp_all [spec_l1In_v]; omega) | (have hf0 := h_x0.2.2.1.1; have hf1 := h_x0.2.2.2.1; simp only [leB, decide_eq_true_eq, List.length_append, List.length_cons, List.length_nil]; omega)) (StE.chk (by first | exact idx_ok (by omega) | exact idx_ok (by have hq := len_eq (by assumption); omega) | exact idx_found (show (0 : Int) ≤ (i0 : Int) by simp_all) | exact cut_ok (by omega) | exact or_ok (idx_ok (by omega)) | (refine or1 (fun hz => pre_ok (by simp at hz; omega) (by omega) (by omega))) | exact pre_ok (by omega) (by omega) (by omega) | (simp_all [idxOk, cutOk, leB]; done) | (simp_all [idxOk, cutOk, leB]; omega) | (simp [idxOk, cutOk, leB] at *; omega) | (simp_all [spec_l1In_v]; omega) | (have hf0 := h_x0.2.2.1.1; have hf1 := h_x0.2.2.2.1; simp only [leB, decide_eq_true_eq, List.length_append, List.length_cons, List.length_nil]; omega)) (StE.bind (spec_l3Among_ev (x0.fIns.take ((i0 : Int)).toNat) (gt x0.fIns (i0 : Int)) ((Lm_take h_x0.2.2.1))) (StE.ifh (fun hc1 => (StE.ret _)) (fun hc1 => StE.next)))))))))) (fun j hj => by
 simp only [spec_l3Fault.l0.eq_2]
 exact Evt.f (ge_lt hj) (Evt.self _))) (fun _ => rfl) (Evt.bind (spec_l3Outs_ev x0 (h_x0) (by first | assumption | (simp_all; omega) | (simp_all [spec_l1In_v]; omega) | (have hf0 := h_x0.2.2.1.1; have hf1 := h_x0.2.2.2.1; simp only [leB, decide_eq_true_eq, List.length_append, List.length_cons, List.length_nil]; omega))) (Evt.self _)))))))))))))
structure TxOK (t : Tx) : Prop where
 kind : 0 ≤ t.fKind ∧ t.fKind ≤ 2
 mem0 : t.fKind = 0 → t.fMember = 0
 mem : t.fKind ≠ 0 → 1 ≤ t.fMember ∧ t.fMember ≤ 999
 ins1 : 1 ≤ t.fIns.length
 ins4 : t.fIns.length ≤ 4
 outs1 : 1 ≤ t.fOuts.length
 outs4 : t.fOuts.length ≤ 4
 ins : ∀ r ∈ t.fIns, (1 ≤ r.fTx ∧ r.fTx ≤ 60) ∧ 0 ≤ r.fAt ∧ r.fAt ≤ 3
 outs : ∀ o ∈ t.fOuts, (1 ≤ o.fValue ∧ o.fValue ≤ 1000000) ∧ spec_l2Fault_v o.fRule = 0
end Go.Proofs.YtecgbhfgkkpmhacGreat.Zk
