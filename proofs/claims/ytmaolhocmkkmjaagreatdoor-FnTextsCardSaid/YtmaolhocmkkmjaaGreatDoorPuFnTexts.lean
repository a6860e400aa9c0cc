/- The plain law of FnTexts: what the program's function and the reference's compute is the same. No condition. -/
import Derived.Test.YtmaolhocmkkmjaaGreatDoorZkPure
import Derived.Test.YtmaolhocmkkmjaaGreatDoorFnTextsZkOpn
import Derived.Test.YtmaolhocmkkmjaaGreatDoorFnTextsZkF11
namespace Go.Proofs.YtmaolhocmkkmjaaGreatDoor.Zk
open Go Go.RowKit Go.IntWalk
set_option linter.unusedVariables false
set_option linter.unusedSimpArgs false

abbrev tr {α : Type} (x : α) : Prop := True
def Lm {α : Type} (sm : α → Prop) (xs : List α) : Prop := xs.length ≤ 1048576 ∧ ∀ x ∈ xs, sm x
theorem gt_mem {α : Type} [Inhabited α] {xs : List α} {i : Nat} (h : i < xs.length) : gt xs (i : Int) ∈ xs := by
  rw [gt_eq (i := (i : Int)) (by simpa using h)]
  exact List.getElem_mem _
theorem Evt_t2 {β : Type} {f g nxt : Nat → Option (β ⊕ Unit)} {c : Bool} {v : Option β} (hc : c = true) (h : StE f nxt v) : StE (fun n => bif c then f n else g n) nxt v := by subst hc; exact h
theorem Lm_take {α : Type} {sm : α → Prop} {xs : List α} {n : Nat} (h : Lm sm xs) : Lm sm (xs.take n) := ⟨by have := h.1; rw [List.length_take]; omega, fun x hx => h.2 x (List.mem_of_mem_take hx)⟩
theorem found_any {β γ : Type} (l : List Nat) (p : Nat → Bool) (a : β) (r : β → γ) (c : γ) : onO (l.findSome? fun i => bif p i then some a else none) r c = bif l.any p then r a else c := by
  induction l with
  | nil => rfl
  | cons i l ih =>
    rw [List.findSome?_cons, List.any_cons]
    cases p i
    · simpa using ih
    · rfl
theorem idx_any (l : List Nat) (p : Nat → Bool) : decide (0 ≤ onO (l.findSome? fun i => bif p i then some (i : Int) else none) (fun r => r) (-1)) = l.any p := by
  induction l with
  | nil => rfl
  | cons i l ih =>
    rw [List.findSome?_cons, List.any_cons]
    cases p i
    · simpa using ih
    · simp [onO]
theorem rng1 {a lo hi : Int} : (decide (a < lo) || decide (hi < a)) = !(decide (lo ≤ a) && decide (a ≤ hi)) := by
  by_cases h1 : a < lo
  · have : ¬ lo ≤ a := by omega
    simp [h1, this]
  · have h2 : lo ≤ a := by omega
    by_cases h3 : hi < a
    · have : ¬ a ≤ hi := by omega
      simp [h1, h2, h3, this]
    · have : a ≤ hi := by omega
      simp [h1, h2, h3, this]
theorem in_range {i n : Nat} (h : i ∈ List.range' 0 (n - 0)) : i < n := by
  have := List.mem_range'_1.1 h
  omega
theorem bifb {b : Bool} : (bif b then true else false) = b := by cases b <;> rfl
theorem idx_found {n : Nat} {p : Nat → Bool} (h : 0 ≤ onO ((List.range' 0 (n - 0)).findSome? fun i => bif p i then some (i : Int) else none) (fun r => r) (-1)) : idxOk (onO ((List.range' 0 (n - 0)).findSome? fun i => bif p i then some (i : Int) else none) (fun r => r) (-1)) n = true := by
  have key : ∀ l : List Nat, (∀ i ∈ l, i < n) → 0 ≤ onO (l.findSome? fun i => bif p i then some (i : Int) else none) (fun r => r) (-1) → idxOk (onO (l.findSome? fun i => bif p i then some (i : Int) else none) (fun r => r) (-1)) n = true := by
    intro l
    induction l with
    | nil => intro _ h; exact absurd h (by show ¬ (0 : Int) ≤ -1; omega)
    | cons i l ih =>
      intro hl h
      rw [List.findSome?_cons] at h ⊢
      cases hp : p i
      · rw [hp] at h; exact ih (fun j hj => hl j (List.mem_cons_of_mem _ hj)) h
      · exact idx_ok (hl i (List.mem_cons_self ..))
  exact key _ (fun i hi => in_range hi) h
theorem cut_ok {i n : Nat} (h : i ≤ n) : cutOk (i : Int) n = true := by unfold cutOk; simp; omega
theorem len_eq {a b : Nat} (h : ((a : Int) != (b : Int)) = false) : a = b := by
  by_cases e : a = b
  · exact e
  · have : ((a : Int) != (b : Int)) = true := by simp; omega
    rw [this] at h; cases h

abbrev smRef (x : Ref) : Prop := tr x.fTx ∧ tr x.fAt
abbrev smRule (x : Rule) : Prop := (Lm tr) x.fKeys ∧ tr x.fNeed ∧ tr x.fAfter
abbrev smOut (x : Out) : Prop := tr x.fValue ∧ smRule x.fRule
abbrev smTx (x : Tx) : Prop := tr x.fKind ∧ tr x.fMember ∧ (Lm smRef) x.fIns ∧ (Lm smOut) x.fOuts
abbrev smTxResult (x : TxResult) : Prop := tr x.fCode ∧ smTx x.fTx
theorem Evt.gatherL {σ : Type} {L : Nat → List σ → Int → Option (List σ)} (n : Nat) (hn : n ≤ 1048576) (st : List σ → Nat → List σ)
    (len : ∀ i, i < n → ∀ a, a.length ≤ i → (st a i).length ≤ i + 1)
    (step : ∀ i, i < n → ∀ a, a.length ≤ i → ∀ o, Evt (fun k => L k (st a i) (wrap64 ((i : Int) + 1))) o → Evt (fun k => L (k + 1) a (i : Int)) o)
    (done : ∀ (i : Nat) a, n ≤ i → Evt (fun k => L (k + 1) a (i : Int)) a) : Evt (fun k => L k [] 0) ((List.range' 0 (n - 0)).foldl st []) := by
  have key : ∀ d i (a : List σ), (i + d = n ∨ n ≤ i ∧ d = 0) → a.length ≤ i → Evt (fun k => L k a (i : Int)) ((List.range' i d).foldl st a) := by
    intro d
    induction d with
    | zero => intro i a hi _; exact Evt.s (done i a (by omega))
    | succ d ih =>
      intro i a hi ha
      rw [List.range'_succ, List.foldl_cons]
      refine Evt.s (step i (by omega) a ha _ ?_)
      rw [w64 (by omega : i < n) (by omega)]
      exact ih (i + 1) (st a i) (by omega) (len i (by omega) a ha)
  exact key (n - 0) 0 [] (by omega) (by simp)
theorem fs_all {β : Type} {p : Nat → Option β} {n : Nat} (h : (List.range' 0 (n - 0)).findSome? p = none) : ∀ i, i < n → p i = none := by
  intro i hi
  rw [List.findSome?_eq_none_iff] at h
  exact h i (by rw [List.mem_range']; exact ⟨i, by omega, by omega⟩)
theorem onO_zero {l : List Nat} {p : Nat → Option Int} {c : Int} (h : onO (l.findSome? p) (fun r => r) c = 0) (hp : ∀ i, p i ≠ some 0) : l.findSome? p = none ∧ c = 0 := by
  cases hf : l.findSome? p with
  | none => rw [hf] at h; exact ⟨rfl, h⟩
  | some r =>
    rw [hf] at h
    obtain ⟨i, _, hi⟩ := List.exists_of_findSome?_eq_some hf
    have : r = 0 := h
    subst this
    exact absurd hi (hp i)
theorem range_foldl {α β : Type} [Inhabited α] (xs : List α) (f : β → α → β) (a : β) : (List.range' 0 (xs.length - 0)).foldl (fun ac (i : Nat) => f ac (gt xs (i : Int))) a = xs.foldl f a := by
  have key : ∀ d i a, i + d = xs.length → (List.range' i d).foldl (fun ac (i : Nat) => f ac (gt xs (i : Int))) a = (xs.drop i).foldl f a := by
    intro d
    induction d with
    | zero => intro i a h; rw [List.drop_eq_nil_of_le (by omega)]; rfl
    | succ d ih =>
      intro i a h
      have hi : i < xs.length := by omega
      rw [List.range'_succ, List.foldl_cons, ih (i + 1) _ (by omega), List.drop_eq_getElem_cons hi, List.foldl_cons, gt_eq (by simpa using hi)]
      simp
  simpa using key xs.length 0 a (by omega)
theorem fold_map {α β : Type} (g : α → β) : ∀ (xs : List α) (ys : List β), xs.foldl (fun ac x => ac ++ [g x]) ys = ys ++ xs.map g
  | [], ys => by simp
  | x :: xs, ys => by rw [List.foldl_cons, fold_map g xs]; simp
def mkB (l : List UInt8) : ByteArray := ⟨l.toArray⟩
theorem mkB_append (a b : List UInt8) : mkB a ++ mkB b = mkB (a ++ b) := by
  apply ByteArray.ext
  simp [mkB]
theorem mkB_size (l : List UInt8) : (mkB l).size = l.length := by simp [mkB, ByteArray.size]
def dgL (n : Int) : List UInt8 := Lib.decDigits n.toNat
theorem dgL_len (n : Int) : ∀ u : Nat, n.toNat = u → (dgL n).length ≤ u + 1 := by
  have key : ∀ u : Nat, (Lib.decDigits u).length ≤ u + 1 := by
    intro u
    induction u using Nat.strongRecOn with
    | _ u ih =>
      rw [Lib.decDigits]
      by_cases h : u < 10
      · rw [dif_pos h]; simp
      · rw [dif_neg h, List.length_append]
        have := ih (u / 10) (by omega)
        simp; omega
  intro u hu
  subst hu
  exact key _
theorem itoa_dg (n : Int) (h0 : 0 ≤ n) : (⟨(Lib.itoa n).toArray⟩ : ByteArray) = mkB (dgL n) := by
  unfold Lib.itoa
  rw [if_neg (by omega)]; rfl
theorem leB_mk {a b : Nat} (h : a + b ≤ 1000000) : leB (a + b) 9223372036854775807 = true := decide_eq_true (by omega)
theorem dg3 (n : Int) (h0 : 0 ≤ n) (h1 : n ≤ 999) : (dgL n).length ≤ 1000 := by
  have := dgL_len n n.toNat rfl
  omega
theorem join3 (xs : List Int) (h1 : 1 ≤ xs.length) (h3 : xs.length ≤ 3) (hk : ∀ x ∈ xs, 1 ≤ x ∧ x ≤ 999) : (Lib.join (xs.map dgL) [44]).length ≤ 3100 := by
  have hd : ∀ x ∈ xs, (dgL x).length ≤ 1000 := fun x hx => dg3 x (by have := hk x hx; omega) (hk x hx).2
  match xs, h1, h3, hd with
  | [a], _, _, hd => have := hd a (by simp); simp [Lib.join_cons, Lib.joinTail]; omega
  | [a, b], _, _, hd => have := hd a (by simp); have := hd b (by simp); simp [Lib.join_cons, Lib.joinTail]; omega
  | [a, b, c], _, _, hd => have := hd a (by simp); have := hd b (by simp); have := hd c (by simp); simp [Lib.join_cons, Lib.joinTail]; omega
  | [], h, _, _ => simp at h
  | _ :: _ :: _ :: _ :: _, _, h, _ => simp at h
theorem lens_le (m : Nat) : ∀ xs : List (List UInt8), (∀ x ∈ xs, x.length ≤ m) → Lib.lens xs ≤ m * xs.length
  | [], _ => by simp [Lib.lens]
  | x :: r, h => by
    have h1 := h x (by simp)
    have h2 := lens_le m r (fun y hy => h y (by simp [hy]))
    have e : m * (r.length + 1) = m * r.length + m := Nat.mul_succ ..
    have e2 : Lib.lens (x :: r) = x.length + Lib.lens r := by simp [Lib.lens]
    rw [e2, List.length_cons, e]; omega
theorem join_le {m n : Nat} {xs : List (List UInt8)} {sep : List UInt8} (h : ∀ x ∈ xs, x.length ≤ m) (hn : xs.length ≤ n) : (Lib.join xs sep).length ≤ m * n + sep.length * n := by
  cases xs with
  | nil => simp [Lib.join_nil]
  | cons x r =>
    have h1 := lens_le m (x :: r) h
    rw [List.length_cons] at h1 hn
    have a : m * (r.length + 1) ≤ m * n := Nat.mul_le_mul_left _ hn
    have b : sep.length * r.length ≤ sep.length * n := Nat.mul_le_mul_left _ (by omega)
    rw [Lib.join_length]; omega
theorem leB_mk2 {a b : Nat} (h : a ≤ b) : leB a b = true := decide_eq_true h
def isDg (b : UInt8) : Prop := 48 ≤ b.toNat ∧ b.toNat ≤ 57
def valL (l : List UInt8) : Nat := l.foldl (fun v b => v * 10 + (b.toNat - 48)) 0
theorem valL_snoc (l : List UInt8) (b : UInt8) : valL (l ++ [b]) = valL l * 10 + (b.toNat - 48) := by simp [valL]
theorem foldl_pos : ∀ (l : List UInt8) (v : Nat), 1 ≤ v → 1 ≤ l.foldl (fun v b => v * 10 + (b.toNat - 48)) v
  | [], v, h => h
  | b :: l, v, h => foldl_pos l (v * 10 + (b.toNat - 48)) (by omega)
theorem dec_val : ∀ (n : Nat) (l : List UInt8), l.length = n → 1 ≤ n → (∀ b ∈ l, isDg b) → (1 < n → l.head? ≠ some 48) → Lib.decDigits (valL l) = l
  | 0, l, _, h, _, _ => by omega
  | n + 1, l, hl, _, hd, hz => by
    rcases List.eq_nil_or_concat l with rfl | ⟨l', b, rfl⟩
    · simp at hl
    · rw [List.concat_eq_append] at *
      have hb : isDg b := hd b (by simp)
      rw [valL_snoc]
      have hl' : l'.length = n := by simpa using hl
      cases n with
      | zero =>
        have : l' = [] := List.length_eq_zero_iff.1 hl'
        subst this
        have e : valL [] * 10 + (b.toNat - 48) = b.toNat - 48 := by simp [valL]
        rw [e, Lib.decDigits_one (by have := hb; unfold isDg at this; omega)]
        have e2 : 48 + (b.toNat - 48) = b.toNat := by have := hb.1; omega
        rw [e2, UInt8.ofNat_toNat]; rfl
      | succ n =>
        cases l' with
        | nil => simp at hl'
        | cons a l'' =>
          have ha : isDg a := hd a (by simp)
          have hz' : a ≠ 48 := by have := hz (by omega); simpa using this
          have ih := dec_val (n + 1) (a :: l'') hl' (by omega) (fun x hx => hd x (by simp at hx ⊢; rcases hx with h | h <;> simp [h])) (fun _ => by simpa using hz')
          have hv : 1 ≤ valL (a :: l'') := by
            unfold valL
            rw [List.foldl_cons]
            refine foldl_pos _ _ ?_
            have h1 := ha.1
            have h2 : a.toNat ≠ 48 := fun e => hz' (by have := UInt8.ofNat_toNat (x := a); rw [e] at this; exact this.symm)
            omega
          have h1 : ¬ valL (a :: l'') * 10 + (b.toNat - 48) < 10 := by omega
          rw [Lib.decDigits, dif_neg h1]
          have hb2 : b.toNat - 48 < 10 := by have := hb; unfold isDg at this; omega
          have e1 : (valL (a :: l'') * 10 + (b.toNat - 48)) / 10 = valL (a :: l'') := by omega
          have e2 : (valL (a :: l'') * 10 + (b.toNat - 48)) % 10 = b.toNat - 48 := by omega
          have e3 : 48 + (b.toNat - 48) = b.toNat := by have := hb.1; omega
          rw [e1, e2, ih, e3, UInt8.ofNat_toNat]
theorem u8dig {d : Nat} (h : d < 10) : (UInt8.ofNat (48 + d)).toNat = 48 + d := by
  rw [UInt8.toNat_ofNat']; omega
theorem dec_is (u : Nat) : (∀ b ∈ Lib.decDigits u, isDg b) ∧ valL (Lib.decDigits u) = u ∧ 1 ≤ (Lib.decDigits u).length ∧ (1 < (Lib.decDigits u).length → (Lib.decDigits u).head? ≠ some 48) ∧ (1 ≤ u → (Lib.decDigits u).head? ≠ some 48) := by
  induction u using Nat.strongRecOn with
  | _ u ih =>
    by_cases h : u < 10
    · rw [Lib.decDigits_one h]
      refine ⟨?_, ?_, by simp, by simp, ?_⟩
      · intro b hb
        simp only [List.mem_cons, List.not_mem_nil, or_false] at hb
        subst hb
        unfold isDg; rw [u8dig h]; omega
      · simp only [valL, List.foldl_cons, List.foldl_nil]; rw [u8dig h]; omega
      · intro hu e
        simp only [List.head?_cons, Option.some.injEq] at e
        have := congrArg UInt8.toNat e
        rw [u8dig h] at this
        have h48 : (48 : UInt8).toNat = 48 := rfl
        omega
    · obtain ⟨i1, i2, i3, i4, i5⟩ := ih (u / 10) (by omega)
      rw [Lib.decDigits.eq_1 u, dif_neg h]
      have hd : u % 10 < 10 := by omega
      have hh : (Lib.decDigits (u / 10) ++ [UInt8.ofNat (48 + u % 10)]).head? = (Lib.decDigits (u / 10)).head? := by
        cases hc : Lib.decDigits (u / 10) with
        | nil => rw [hc] at i3; simp at i3
        | cons x r => rfl
      refine ⟨?_, ?_, by simp, fun _ => ?_, fun _ => ?_⟩
      · intro b hb
        rcases List.mem_append.1 hb with hb | hb
        · exact i1 b hb
        · simp only [List.mem_cons, List.not_mem_nil, or_false] at hb
          subst hb
          unfold isDg; rw [u8dig hd]; omega
      · rw [valL_snoc, i2, u8dig hd]; omega
      · rw [hh]; exact i5 (by omega)
      · rw [hh]; exact i5 (by omega)
theorem dec_short {u : Nat} : (u < 10 → (Lib.decDigits u).length = 1) ∧ (u < 100 → (Lib.decDigits u).length ≤ 2) ∧ (u < 1000 → (Lib.decDigits u).length ≤ 3) := by
  have k1 : ∀ u, u < 10 → (Lib.decDigits u).length = 1 := fun u h => by rw [Lib.decDigits_one h]; rfl
  have k2 : ∀ u, u < 100 → (Lib.decDigits u).length ≤ 2 := fun u h => by
    by_cases c : u < 10
    · rw [k1 u c]; omega
    · rw [Lib.decDigits, dif_neg c, List.length_append, k1 (u / 10) (by omega)]; simp
  refine ⟨k1 u, k2 u, fun h => ?_⟩
  by_cases c : u < 10
  · rw [k1 u c]; omega
  · rw [Lib.decDigits, dif_neg c, List.length_append]
    have := k2 (u / 10) (by omega)
    simp; omega
theorem valL_lt : ∀ (l : List UInt8), (∀ b ∈ l, isDg b) → valL l < 10 ^ l.length := by
  intro l
  induction h : l.length generalizing l with
  | zero => have : l = [] := List.length_eq_zero_iff.1 h; subst this; intro _; simp [valL]
  | succ n ih =>
    intro hd
    rcases List.eq_nil_or_concat l with rfl | ⟨l', b, rfl⟩
    · simp at h
    · rw [List.concat_eq_append] at *
      have hb : isDg b := hd b (by simp)
      have hl' : l'.length = n := by simpa using h
      have := ih l' hl' (fun x hx => hd x (by simp [hx]))
      rw [valL_snoc, Nat.pow_succ]
      have := hb.2
      omega
instance : DecidablePred isDg := fun b => inferInstanceAs (Decidable (48 ≤ b.toNat ∧ b.toNat ≤ 57))
theorem dg_no {c : UInt8} (hc : ¬ isDg c) (n : Int) : c ∉ dgL n := fun h => hc ((dec_is n.toNat).1 c h)
theorem dg_l2 {n : Int} (h : n ≤ 99) : (dgL n).length ≤ 2 := dec_short.2.1 (by omega)
theorem dg_l1 {n : Int} (h : n ≤ 9) : (dgL n).length ≤ 1 := by have := (dec_short (u := n.toNat)).1 (by omega); unfold dgL; omega
theorem dg_l3 {n : Int} (h : n ≤ 999) : (dgL n).length ≤ 3 := dec_short.2.2 (by omega)
theorem join5 (a b c d e : List UInt8) (s : List UInt8) : Lib.join [a, b, c, d, e] s = a ++ s ++ b ++ s ++ c ++ s ++ d ++ s ++ e := by
  simp [Lib.join_cons, Lib.joinTail, List.append_assoc]
theorem join3' (a b c : List UInt8) (s : List UInt8) : Lib.join [a, b, c] s = a ++ s ++ b ++ s ++ c := by
  simp [Lib.join_cons, Lib.joinTail, List.append_assoc]
theorem mem_join {b : UInt8} {sep : List UInt8} : ∀ {ps : List (List UInt8)}, b ∈ Lib.join ps sep → b ∈ sep ∨ ∃ p ∈ ps, b ∈ p
  | [], h => by simp [Lib.join_nil] at h
  | x :: r, h => by
    rw [Lib.join_cons] at h
    rcases List.mem_append.1 h with h | h
    · exact .inr ⟨x, by simp, h⟩
    · unfold Lib.joinTail at h
      rw [List.mem_flatten] at h
      obtain ⟨q, hq, hb⟩ := h
      obtain ⟨p, hp, rfl⟩ := List.mem_map.1 hq
      rcases List.mem_append.1 hb with hb | hb
      · exact .inl hb
      · exact .inr ⟨p, by simp [hp], hb⟩
theorem nodg {c : UInt8} (h : c = 32 ∨ c = 43 ∨ c = 44 ∨ c = 45 ∨ c = 58 ∨ c = 61 ∨ c = 95 := by decide) : ¬ isDg c := by
  rcases h with rfl | rfl | rfl | rfl | rfl | rfl | rfl <;> decide
theorem dec_len : ∀ (k u : Nat), u < 10 ^ (k + 1) → (Lib.decDigits u).length ≤ k + 1
  | 0, u, h => by rw [Lib.decDigits_one (by simpa using h)]; simp
  | k + 1, u, h => by
    by_cases c : u < 10
    · rw [Lib.decDigits_one c]; simp
    · have e : 10 ^ (k + 1 + 1) = 10 ^ (k + 1) * 10 := Nat.pow_succ ..
      rw [e] at h
      have ih := dec_len k (u / 10) (by omega)
      rw [Lib.decDigits, dif_neg c, List.length_append]
      simp; omega
theorem dg_l7 {n : Int} (h : n ≤ 9999999) : (dgL n).length ≤ 7 := dec_len 6 _ (by show n.toNat < 10000000; omega)
def cutA (c : UInt8) : List UInt8 → List UInt8 → List (List UInt8)
  | acc, [] => [acc]
  | acc, b :: l => if b = c then acc :: cutA c [] l else cutA c (acc ++ [b]) l
theorem cutA_pos (c : UInt8) : ∀ (l acc : List UInt8), 1 ≤ (cutA c acc l).length
  | [], acc => by simp [cutA]
  | b :: l, acc => by
    unfold cutA
    split
    · simp
    · exact cutA_pos c l _
theorem cutA_len (c : UInt8) : ∀ (l acc : List UInt8), (cutA c acc l).length ≤ l.length + 1
  | [], acc => by simp [cutA]
  | b :: l, acc => by
    unfold cutA
    split
    · have := cutA_len c l []; simp; omega
    · have := cutA_len c l (acc ++ [b]); simp; omega
theorem cutA_join (c : UInt8) : ∀ (l acc : List UInt8), Lib.join (cutA c acc l) [c] = acc ++ l
  | [], acc => by simp [cutA, Lib.join_one]
  | b :: l, acc => by
    unfold cutA
    split
    · next h =>
      subst h
      have h2 := cutA_join b l []
      have h3 := cutA_pos b l []
      cases hc : cutA b [] l with
      | nil => rw [hc] at h3; simp at h3
      | cons x r =>
        rw [hc, Lib.join_cons] at h2
        rw [Lib.join_cons]
        unfold Lib.joinTail at h2 ⊢
        rw [List.map_cons, List.flatten_cons]
        simp only [List.nil_append] at h2
        rw [List.append_assoc, List.singleton_append, h2]
    · rw [cutA_join c l (acc ++ [b])]; simp
theorem cutA_skip (c : UInt8) : ∀ (p acc l : List UInt8), c ∉ p → cutA c acc (p ++ l) = cutA c (acc ++ p) l
  | [], acc, l, _ => by simp
  | b :: p, acc, l, h => by
    have h1 : b ≠ c := fun e => h (by simp [e])
    have h2 : c ∉ p := fun e => h (by simp [e])
    rw [List.cons_append, cutA, if_neg h1, cutA_skip c p _ _ h2]; simp
theorem cutA_tail (c : UInt8) : ∀ (r : List (List UInt8)) (x : List UInt8), (∀ p ∈ r, c ∉ p) → cutA c x (Lib.joinTail [c] r) = x :: r
  | [], x, _ => by simp [Lib.joinTail, cutA]
  | p :: r, x, h => by
    have e : Lib.joinTail [c] (p :: r) = c :: (p ++ Lib.joinTail [c] r) := by simp [Lib.joinTail]
    rw [e, cutA, if_pos rfl, cutA_skip c p [] _ (h p (by simp)), List.nil_append, cutA_tail c r p (fun q hq => h q (by simp [hq]))]
theorem cutA_of_join (c : UInt8) (x : List UInt8) (r : List (List UInt8)) (h : ∀ p ∈ x :: r, c ∉ p) : cutA c [] (Lib.join (x :: r) [c]) = x :: r := by
  rw [Lib.join_cons, cutA_skip c x [] _ (h x (by simp)), List.nil_append, cutA_tail c r x (fun p hp => h p (by simp [hp]))]
theorem cutA_acc (c : UInt8) : ∀ (l acc : List UInt8), ∃ x r, cutA c [] l = x :: r ∧ cutA c acc l = (acc ++ x) :: r
  | [], acc => ⟨[], [], rfl, by simp [cutA]⟩
  | b :: l, acc => by
    by_cases h : b = c
    · exact ⟨[], cutA c [] l, by rw [cutA, if_pos h], by rw [cutA, if_pos h]; simp⟩
    · obtain ⟨x, r, h1, h2⟩ := cutA_acc c l (acc ++ [b])
      obtain ⟨x', r', h3, h4⟩ := cutA_acc c l [b]
      have e : x = x' ∧ r = r' := by rw [h1] at h3; exact List.cons.inj h3
      refine ⟨b :: x, r, ?_, ?_⟩
      · rw [cutA, if_neg h, List.nil_append, h4, ← e.1, ← e.2]; rfl
      · rw [cutA, if_neg h, h2]; simp
theorem cutA_le (c : UInt8) : ∀ (l acc : List UInt8) (p : List UInt8), p ∈ cutA c acc l → p.length ≤ acc.length + l.length
  | [], acc, p, h => by simp [cutA] at h; subst h; simp
  | b :: l, acc, p, h => by
    unfold cutA at h
    split at h
    · rcases List.mem_cons.1 h with h | h
      · subst h; simp
      · have := cutA_le c l [] p h; simp at this ⊢; omega
    · have := cutA_le c l (acc ++ [b]) p h; simp at this ⊢; omega
theorem split_cutA (c : UInt8) : ∀ s : List UInt8, Lib.splitK [c] 0 (Lib.count s [c]) s = cutA c [] s
  | [] => by rw [Lib.count_one]; rfl
  | b :: l => by
    have ih := split_cutA c l
    by_cases h : b = c
    · subst h
      have hix : Lib.index (b :: l) [b] = 0 := by rw [Lib.index]; simp [List.isPrefixOf]
      rw [Lib.count_cons_eq, Nat.add_comm, Lib.splitK, hix, cutA, if_pos rfl, if_neg (by decide)]
      simpa using ih
    · rw [Lib.count_cons_ne b c l h]
      have hp : ([c] : List UInt8).isPrefixOf (b :: l) = false := by simp [List.isPrefixOf, Ne.symm h]
      have hix : Lib.index (b :: l) [c] = if Lib.index l [c] == -1 then -1 else Lib.index l [c] + 1 := by rw [Lib.index, hp]; simp
      obtain ⟨x, r, h1, h2⟩ := cutA_acc c l [b]
      rw [cutA, if_neg h, List.nil_append, h2]
      rw [h1] at ih
      by_cases hm : Lib.index l [c] = -1
      · have hm' : Lib.index (b :: l) [c] = -1 := by rw [hix, hm]; rfl
        have hk : ∀ k (s : List UInt8), Lib.index s [c] = -1 → Lib.splitK [c] 0 k s = [s] := by
          intro k s hs
          cases k with
          | zero => rfl
          | succ k => rw [Lib.splitK, hs]; rfl
        rw [hk _ _ hm] at ih
        rw [hk _ _ hm']
        obtain ⟨rfl, rfl⟩ := List.cons.inj ih
        rfl
      · have hge := Lib.index_ge l [c]
        have hne : (Lib.index l [c] == -1) = false := by simpa using hm
        rw [hne] at hix
        simp only [Bool.false_eq_true, if_false] at hix
        cases hc : Lib.count l [c] with
        | zero =>
          exfalso
          obtain ⟨j, hj⟩ : ∃ j : Nat, Lib.index l [c] = j := ⟨(Lib.index l [c]).toNat, by omega⟩
          have := Lib.count_hit (s := l) (sub := [c]) (by simp) hj
          omega
        | succ k =>
          rw [hc, Lib.splitK, hne] at ih
          simp only [Bool.false_eq_true, if_false, Nat.add_zero] at ih
          obtain ⟨e1, e2⟩ := List.cons.inj ih
          rw [Lib.splitK, hix]
          have hne2 : (Lib.index l [c] + 1 == -1) = false := by simp; omega
          have ht : (Lib.index l [c] + 1).toNat = (Lib.index l [c]).toNat + 1 := by omega
          rw [hne2, ht]
          simp only [Bool.false_eq_true, if_false, Nat.add_zero, List.take_succ_cons]
          rw [e1]
          have e3 : (Lib.index l [c]).toNat + 1 + [c].length = ((Lib.index l [c]).toNat + [c].length) + 1 := by omega
          rw [e3, List.drop_succ_cons, e2]; rfl
theorem parseM (M : Nat) : ∀ (l : List UInt8) (acc : Nat), (∀ b ∈ l, isDg b) → (∀ n, n ≤ l.length → (l.take n).foldl (fun v b => v * 10 + (b.toNat - 48)) acc < 1844674407370955162 ∧ (l.take n).foldl (fun v b => v * 10 + (b.toNat - 48)) acc ≤ M) → Lib.parseUintM M acc l = .ok (l.foldl (fun v b => v * 10 + (b.toNat - 48)) acc)
  | [], acc, _, _ => rfl
  | c :: r, acc, hd, hb => by
    have hc : 48 ≤ c.toNat ∧ c.toNat ≤ 57 := hd c (by simp)
    have h0 := hb 0 (by simp)
    have h1 := hb 1 (by simp)
    simp only [List.take_zero, List.foldl_nil] at h0
    simp only [List.take_succ_cons, List.take_zero, List.foldl_cons, List.foldl_nil] at h1
    unfold Lib.parseUintM
    rw [if_pos hc, if_neg (by omega), if_neg (by omega), parseM M r _ (fun b hx => hd b (by simp [hx])) (fun n hn => by
      have := hb (n + 1) (by simp; omega)
      simpa using this)]
    rfl
theorem take_val_le (l : List UInt8) (hd : ∀ b ∈ l, isDg b) (n : Nat) (hn : n ≤ l.length) (hl : l.length ≤ 10) : valL (l.take n) < 10000000000 := by
  have h := valL_lt (l.take n) (fun b hb => hd b (List.mem_of_mem_take hb))
  have h2 : (l.take n).length ≤ 10 := by rw [List.length_take]; omega
  have h3 : 10 ^ (l.take n).length ≤ 10 ^ 10 := Nat.pow_le_pow_right (by omega) h2
  omega
theorem parse_dec (u : Nat) (hu : u < 100000000) : Lib.parseIntB 64 (Lib.decDigits u) = .ok (u : Int) := by
  obtain ⟨i1, i2, i3, i4, i5⟩ := dec_is u
  have hs : (Lib.decDigits u).length ≤ 8 := dec_len 7 u hu
  cases hc : Lib.decDigits u with
  | nil => rw [hc] at i3; simp at i3
  | cons c r =>
    rw [hc] at i1 i2 hs
    have hcd := i1 c (by simp)
    unfold Lib.parseIntB
    have h1 : ¬ (c.toNat = 43 ∨ c.toNat = 45) := by have := hcd.1; omega
    have h2 : ¬ c.toNat = 45 := by have := hcd.1; omega
    have e : Lib.parseUintB 64 (c :: r) = .ok u := by
      unfold Lib.parseUintB
      rw [if_neg (by simp), parseM _ _ _ i1 (fun n hn => by
        have := take_val_le (c :: r) i1 n hn (by omega)
        unfold valL at this
        omega)]
      exact congrArg _ i2
    have h3 : ¬ c.toNat = 43 := by have := hcd.1; omega
    simp only [h2, h3, or_self, not_false_eq_true, true_and, false_and, if_false]
    rw [e]
    simp only []
    rw [if_neg (by omega)]
theorem Evt.uniq {α : Type} {f : Nat → Option α} {a b : α} (h : Evt f a) (k : Evt f b) : a = b := by
  obtain ⟨K, h⟩ := h; obtain ⟨J, k⟩ := k
  have h1 := h (K + J) (by omega); have h2 := k (K + J) (by omega)
  rw [h1] at h2; exact Option.some.inj h2
theorem mk_extract (l : List UInt8) (a b : Nat) : (mkB l).extract a b = mkB ((l.take b).drop a) := by
  apply ByteArray.ext
  rw [ByteArray.data_extract]
  apply Array.ext'
  simp [mkB, List.drop_take]
theorem bt_mk (l : List UInt8) (i : Nat) (h : i < l.length) : bt (mkB l) (i : Int) = (l[i].toNat : Int) := by
  unfold bt mkB
  simp [List.getD_eq_getElem?_getD, List.getElem?_eq_getElem h]
theorem mk_inj {a b : List UInt8} (h : mkB a = mkB b) : a = b := by
  have := congrArg (fun x : ByteArray => x.data.toList) h
  simpa [mkB] using this
theorem sEq_mk {a b : List UInt8} : sEq (mkB a) (mkB b) = true ↔ a = b := by rw [sEq_iff]; exact ⟨mk_inj, fun h => by rw [h]⟩
theorem sEq_mkf {a b : List UInt8} (h : a ≠ b) : sEq (mkB a) (mkB b) = false := by
  cases e : sEq (mkB a) (mkB b)
  · rfl
  · exact absurd (sEq_mk.1 e) h
theorem mk_of (x : ByteArray) : x = mkB x.data.toList := by apply ByteArray.ext; simp [mkB]
theorem splitB_mk (c : UInt8) (l : List UInt8) : Lib.splitB (mkB [c]) 0 (Lib.countB (mkB l) (mkB [c])) (mkB l) = (cutA c [] l).map mkB := by
  have h := Lib.splitB_data (mkB [c]) 0 (Lib.countB (mkB l) (mkB [c])) (mkB l)
  have e : Lib.splitK (mkB [c]).data.toList 0 (Lib.countB (mkB l) (mkB [c])) (mkB l).data.toList = cutA c [] l := split_cutA c l
  rw [e] at h
  rw [← h, List.map_map]
  have e2 : (mkB ∘ fun x : ByteArray => x.data.toList) = id := by funext x; exact (mk_of x).symm
  rw [e2, List.map_id]
theorem strings_Split_ev (l : List UInt8) (c : UInt8) (h : l.length ≤ 1048576) : Evt (fun k => strings_Split.f k (mkB l) (mkB [c])) ((cutA c [] l).map mkB) := by
  refine Evt.chk ?_ (Evt.ret (splitB_mk c l))
  rw [mkB_size, mkB_size, Bool.and_eq_true]
  exact ⟨decide_eq_true (by simp), decide_eq_true (by omega)⟩
theorem five {α : Type} {ws : List α} (h : ws.length = 5) : ∃ a b c d e, ws = [a, b, c, d, e] := by
  match ws, h with
  | [a, b, c, d, e], _ => exact ⟨a, b, c, d, e, rfl⟩
theorem five_sz {c : UInt8} {l w0 w1 w2 w3 w4 : List UInt8} (h : cutA c [] l = [w0, w1, w2, w3, w4]) : l = w0 ++ [c] ++ w1 ++ [c] ++ w2 ++ [c] ++ w3 ++ [c] ++ w4 := by
  have := cutA_join c l []
  rw [h, join5] at this
  simpa using this.symm
theorem cut_dgs {c : UInt8} (hc : ¬ isDg c) (xs : List Int) (h : xs ≠ []) : cutA c [] (Lib.join (xs.map dgL) [c]) = xs.map dgL := by
  cases xs with
  | nil => exact absurd rfl h
  | cons x r => exact cutA_of_join c (dgL x) (r.map dgL) (fun p hp => by
      obtain ⟨y, _, rfl⟩ := List.mem_map.1 (show p ∈ (x :: r).map dgL from hp)
      exact dg_no hc y)
theorem neg_self {a : List UInt8} : (!sEq (mkB a) (mkB a)) = false := by rw [sEq_mk.2 rfl]; rfl
theorem two {α : Type} {ws : List α} (h : ws.length = 2) : ∃ a b, ws = [a, b] := by
  match ws, h with
  | [a, b], _ => exact ⟨a, b, rfl⟩
theorem cut2 {c : UInt8} {a b : List UInt8} (ha : c ∉ a) (hb : c ∉ b) : cutA c [] (a ++ [c] ++ b) = [a, b] := by
  have h := cutA_of_join c a [b] (fun p hp => by
    simp only [List.mem_cons, List.not_mem_nil, or_false] at hp
    rcases hp with rfl | rfl
    · exact ha
    · exact hb)
  rw [Lib.join_cons] at h
  simpa [Lib.joinTail] using h
theorem len_in_lens {p : List UInt8} : ∀ {ws : List (List UInt8)}, p ∈ ws → p.length ≤ Lib.lens ws
  | [], h => by simp at h
  | x :: r, h => by
    have e2 : Lib.lens (x :: r) = x.length + Lib.lens r := by simp [Lib.lens]
    rw [e2]
    rcases List.mem_cons.1 h with rfl | h
    · omega
    · have := len_in_lens h; omega
theorem cut_word_lt {c : UInt8} {l p : List UInt8} {ws : List (List UInt8)} (h : cutA c [] l = ws) (h2 : 2 ≤ ws.length) (hp : p ∈ ws) : p.length + 1 ≤ l.length := by
  have hj := cutA_join c l []
  rw [h] at hj
  have hl := len_in_lens hp
  cases ws with
  | nil => simp at h2
  | cons x r =>
    have e := congrArg List.length hj
    rw [Lib.join_length] at e
    simp only [List.length_cons, List.nil_append, List.length_nil] at e h2
    have e2 : Lib.lens (x :: r) = x.length + Lib.lens r := by simp [Lib.lens]
    rw [e2] at hl
    omega
def codeOK (c : List Int) : Prop := c.length ≤ 1048576 ∧ ∀ x ∈ c, 0 ≤ x ∧ x ≤ 255
theorem source_ev (c : List Int) : Evt (fun k => spec_l1Source.f k c) 0 := Evt.self _
theorem w_in {a : Int} (h : 0 ≤ a ∧ a ≤ 1000000000000) : wrap64 a = a := wrap64_in _ (by omega)
theorem gt_code {c : List Int} (hc : codeOK c) {i : Int} (h0 : 0 ≤ i) (h1 : i < c.length) : 0 ≤ gt c i ∧ gt c i ≤ 255 := by
  have e : gt c i = c[i.toNat]'(by omega) := gt_eq (by omega)
  rw [e]; exact hc.2 _ (List.getElem_mem _)
theorem next_ev (c : List Int) (a n : Int) (hc : codeOK c) (ha : 0 ≤ a ∧ a ≤ 1000000) (hn : 1 ≤ n ∧ n ≤ 1000000) : ∃ v, Evt (fun k => spec_l1Next.f k ⟨c, a⟩ n) (v, a + 1) ∧ 0 ≤ v ∧ v < n := by
  have e1 : wrap64 (a + 1) = a + 1 := w_in (by omega)
  have e2 : wrap64 (a + 1 - 1) = a := by rw [show a + 1 - 1 = a by omega]; exact w_in (by omega)
  have hn1 : decide (n < 1) = false := by simp; omega
  have hn0 : (n != 0) = true := by rw [bne_iff_ne]; omega
  unfold spec_l1Next.f
  simp only [e1, e2]
  by_cases hl : c.length = 0
  · have e3 : wrap64 (a * 7) = a * 7 := w_in (by omega)
    refine ⟨Int.tmod (a * 7) n, Evt.f hn1 (Evt.t (by rw [hl]; rfl) (Evt.chk hn0 (Evt.ret (by rw [e3])))), Int.tmod_nonneg _ (by omega), Int.tmod_lt_of_pos _ (by omega)⟩
  · have hlp : (0 : Int) < (c.length : Int) := by omega
    have hcl := hc.1
    have hl0 : ((c.length : Int) == 0) = false := by simpa using hl
    have hln : ((c.length : Int) != 0) = true := by rw [bne_iff_ne]; omega
    have i0 := Int.tmod_nonneg (a := a) (c.length : Int) ha.1
    have i1 := Int.tmod_lt_of_pos a hlp
    have g1 := gt_code hc i0 i1
    have hq : IntKind.i64.wrap (Int.tdiv a (c.length : Int)) = a / (c.length : Int) := i64_quo _ _ ⟨ha.1, by omega, by omega⟩
    have q0 : 0 ≤ a / (c.length : Int) := Int.ediv_nonneg ha.1 (by omega)
    have q1 : a / (c.length : Int) ≤ a := Int.ediv_le_self _ ha.1
    have hi : idxOk (Int.tmod a (c.length : Int)) c.length = true := by unfold idxOk; simp; omega
    have ea : wrap64 (gt c (Int.tmod a (c.length : Int))) = gt c (Int.tmod a (c.length : Int)) := w_in (by omega)
    have eb : wrap64 ((a / (c.length : Int)) * 37) = (a / (c.length : Int)) * 37 := w_in (by omega)
    have ec : wrap64 (gt c (Int.tmod a (c.length : Int)) + (a / (c.length : Int)) * 37) = gt c (Int.tmod a (c.length : Int)) + (a / (c.length : Int)) * 37 := w_in (by omega)
    simp only [hq, ea, eb, ec]
    by_cases h2 : 200 < n
    · have e3 : wrap64 (a + 1) = a + 1 := e1
      have j0 := Int.tmod_nonneg (a := a + 1) (c.length : Int) (by omega)
      have j1 := Int.tmod_lt_of_pos (a + 1) hlp
      have g2 := gt_code hc j0 j1
      have hj : idxOk (Int.tmod (a + 1) (c.length : Int)) c.length = true := by unfold idxOk; simp; omega
      have w1 := w_in (a := (gt c (Int.tmod a (c.length : Int)) + (a / (c.length : Int)) * 37) * 251) (by omega)
      have w2 : wrap64 (gt c (Int.tmod (a + 1) (c.length : Int))) = gt c (Int.tmod (a + 1) (c.length : Int)) := w_in (by omega)
      have w3 := w_in (a := gt c (Int.tmod (a + 1) (c.length : Int)) * 13) (by omega)
      simp only [w1, w2, w3]
      have w4 := w_in (a := (gt c (Int.tmod a (c.length : Int)) + (a / (c.length : Int)) * 37) * 251 + gt c (Int.tmod (a + 1) (c.length : Int)) * 13) (by omega)
      simp only [w4]
      have w5 := w_in (a := (gt c (Int.tmod a (c.length : Int)) + (a / (c.length : Int)) * 37) * 251 + gt c (Int.tmod (a + 1) (c.length : Int)) * 13 + a) (by omega)
      simp only [w5]
      exact ⟨_, Evt.f hn1 (Evt.f hl0 (Evt.chk hln (Evt.chk hi (Evt.chk hln (Evt.t (decide_eq_true h2) (Evt.chk hln (Evt.chk hj (Evt.chk hn0 (Evt.self _))))))))), Int.tmod_nonneg _ (by omega), Int.tmod_lt_of_pos _ (by omega)⟩
    · exact ⟨_, Evt.f hn1 (Evt.f hl0 (Evt.chk hln (Evt.chk hi (Evt.chk hln (Evt.f (decide_eq_false h2) (Evt.chk hn0 (Evt.self _))))))), Int.tmod_nonneg _ (by omega), Int.tmod_lt_of_pos _ (by omega)⟩
theorem pick_ev (c : List Int) (a : Int) (l : List Int) (hc : codeOK c) (ha : 0 ≤ a ∧ a ≤ 1000000) (hl : 1 ≤ l.length ∧ l.length ≤ 1000000) : ∃ v, Evt (fun k => spec_l1Pick.f k ⟨c, a⟩ l) (v, a + 1) ∧ v ∈ l := by
  obtain ⟨v, e, h0, h1⟩ := next_ev c a (l.length : Int) hc ha (by omega)
  refine ⟨gt l v, Evt.bind e (Evt.chk (by unfold idxOk; simp; omega) (Evt.self _)), ?_⟩
  have e2 : gt l v = l[v.toNat]'(by omega) := gt_eq (by omega)
  rw [e2]; exact List.getElem_mem _
def spec_l3Among_v (x0 : List Ref) (x1 : Ref) : Bool := (onO ((List.range' 0 (x0.length - 0)).findSome? (fun (i0 : Nat) => (bif ((((gt x0 (i0 : Int)).fTx) == x1.fTx) && (((gt x0 (i0 : Int)).fAt) == x1.fAt)) then (some true) else none))) (fun r => r) false)
theorem spec_l3Among_ev (x0 : List Ref) (x1 : Ref) (h_x0 : (Lm smRef) x0) : Evt (fun k => spec_l3Among.f k x0 x1) (spec_l3Among_v x0 x1) :=
  (Evt.loop (r' := fun r => r) (Evt.srch (L := (fun k i => spec_l3Among.l0 x0 x1 k i)) 0 x0.length (by have := h_x0; first | (have := this.1; omega) | omega) (fun (i0 : Nat) => (bif ((((gt x0 (i0 : Int)).fTx) == x1.fTx) && (((gt x0 (i0 : Int)).fAt) == x1.fAt)) then (some true) else none)) (fun i0 hs2 hi2 => by
  have hbn : x0.length ≤ 9223372036854775807 := (by have := h_x0; first | (have := this.1; omega) | omega)
  simp only [spec_l3Among.l0_s]
  exact Evt_t2 (int_lt hi2) (StE.chk (by first | exact idx_ok (by omega) | exact idx_ok (by have hq := len_eq (by assumption); omega) | exact idx_found (show (0 : Int) ≤ (i0 : Int) by simp_all) | exact cut_ok (by omega) | exact or_ok (idx_ok (by omega)) | (refine or1 (fun hz => pre_ok (by simp at hz; omega) (by omega) (by omega))) | exact pre_ok (by omega) (by omega) (by omega) | (simp_all [idxOk, cutOk, leB]; done) | (simp_all [idxOk, cutOk, leB]; omega) | (simp [idxOk, cutOk, leB] at *; omega) | (have hf0 := h_x0.1; simp only [leB, decide_eq_true_eq, List.length_append, List.length_cons, List.length_nil]; omega)) (StE.ifh (fun hc1 => (StE.ret _)) (fun hc1 => StE.next)))) (fun j hj => by
  simp only [spec_l3Among.l0_s]
  exact Evt.f (ge_lt hj) (Evt.self _))) (fun _ => rfl) (Evt.self _))
def spec_l1In_v (x0 : Int) (x1 : Int) (x2 : Int) : Bool := ((decide (x1 ≤ x0)) && (decide (x0 ≤ x2)))
theorem spec_l1In_ev (x0 : Int) (x1 : Int) (x2 : Int)  : Evt (fun k => spec_l1In.f k x0 x1 x2) (spec_l1In_v x0 x1 x2) :=
  (Evt.self _)
def spec_l1Key_v (x0 : Int) : Bool := (spec_l1In_v x0 1 999)
theorem spec_l1Key_ev (x0 : Int)  : Evt (fun k => spec_l1Key.f k x0) (spec_l1Key_v x0) :=
  (Evt.bind (spec_l1In_ev x0 1 999) (Evt.self _))
def spec_l2Height_v (x0 : Int) : Bool := (spec_l1In_v x0 0 999)
theorem spec_l2Height_ev (x0 : Int)  : Evt (fun k => spec_l2Height.f k x0) (spec_l2Height_v x0) :=
  (Evt.bind (spec_l1In_ev x0 0 999) (Evt.self _))
def spec_l2Fault_v (x0 : Rule) : Int := (bif !(spec_l1In_v (x0.fKeys.length : Int) 1 3) then 2 else (onO ((List.range' 0 (x0.fKeys.length - 0)).findSome? (fun (i0 : Nat) => (bif !(spec_l1Key_v (gt x0.fKeys (i0 : Int))) then (some 3) else none))) (fun r => r) (bif ((!(spec_l1In_v x0.fNeed 1 (x0.fKeys.length : Int))) || (!(bif (!(!(spec_l1In_v x0.fNeed 1 (x0.fKeys.length : Int)))) then (spec_l2Height_v x0.fAfter) else default))) then 3 else (onO ((List.range' 1 (x0.fKeys.length - 1)).findSome? (fun (i2 : Nat) => (bif (decide ((gt x0.fKeys (i2 : Int)) ≤ (gt x0.fKeys (wrap64 ((i2 : Int) - 1))))) then (some 1) else none))) (fun r => r) 0))))
theorem spec_l2Fault_ev (x0 : Rule) (h_x0 : smRule x0) : Evt (fun k => spec_l2Fault.f k x0) (spec_l2Fault_v x0) :=
  (Evt.bind (spec_l1In_ev (x0.fKeys.length : Int) 1 3) (Evt.ifh (fun hc5 => (Evt.self _)) (fun hc5 => (Evt.loop (r' := fun r => r) (Evt.srch (L := (fun k i => spec_l2Fault.l0 x0 k i)) 0 x0.fKeys.length (by have := h_x0.1; first | (have := this.1; omega) | omega) (fun (i0 : Nat) => (bif !(spec_l1Key_v (gt x0.fKeys (i0 : Int))) then (some 3) else none)) (fun i0 hs2 hi2 => by
  have hbn : x0.fKeys.length ≤ 9223372036854775807 := (by have := h_x0.1; first | (have := this.1; omega) | omega)
  simp only [spec_l2Fault.l0_s]
  exact Evt_t2 (int_lt hi2) (StE.chk (by first | exact idx_ok (by omega) | exact idx_ok (by have hq := len_eq (by assumption); omega) | exact idx_found (show (0 : Int) ≤ (i0 : Int) by simp_all) | exact cut_ok (by omega) | exact or_ok (idx_ok (by omega)) | (refine or1 (fun hz => pre_ok (by simp at hz; omega) (by omega) (by omega))) | exact pre_ok (by omega) (by omega) (by omega) | (simp_all [idxOk, cutOk, leB]; done) | (simp_all [idxOk, cutOk, leB]; omega) | (simp [idxOk, cutOk, leB] at *; omega) | (have hf0 := h_x0.1.1; simp only [leB, decide_eq_true_eq, List.length_append, List.length_cons, List.length_nil]; omega)) (StE.bind (spec_l1Key_ev (gt x0.fKeys (i0 : Int))) (StE.ifh (fun hc1 => (StE.ret _)) (fun hc1 => StE.next))))) (fun j hj => by
  simp only [spec_l2Fault.l0_s]
  exact Evt.f (ge_lt hj) (Evt.self _))) (fun _ => rfl) (Evt.bind (spec_l1In_ev x0.fNeed 1 (x0.fKeys.length : Int)) (Evt.bind (Evt.ifh (fun _ => (spec_l2Height_ev x0.fAfter)) (fun _ => Evt.self _)) (Evt.ifh (fun hc4 => (Evt.self _)) (fun hc4 => (Evt.loop (r' := fun r => r) (Evt.srch (L := (fun k i => spec_l2Fault.l1 x0 k i)) 1 x0.fKeys.length (by have := h_x0.1; first | (have := this.1; omega) | omega) (fun (i2 : Nat) => (bif (decide ((gt x0.fKeys (i2 : Int)) ≤ (gt x0.fKeys (wrap64 ((i2 : Int) - 1))))) then (some 1) else none)) (fun i2 hs4 hi4 => by
  have hbn : x0.fKeys.length ≤ 9223372036854775807 := (by have := h_x0.1; first | (have := this.1; omega) | omega)
  simp only [spec_l2Fault.l1_s]
  exact Evt_t2 (int_lt hi4) (StE.chk (by first | exact idx_ok (by omega) | exact idx_ok (by have hq := len_eq (by assumption); omega) | exact idx_found (show (0 : Int) ≤ (i2 : Int) by simp_all) | exact cut_ok (by omega) | exact or_ok (idx_ok (by omega)) | (refine or1 (fun hz => pre_ok (by simp at hz; omega) (by omega) (by omega))) | exact pre_ok (by omega) (by omega) (by omega) | (simp_all [idxOk, cutOk, leB]; done) | (simp_all [idxOk, cutOk, leB]; omega) | (simp [idxOk, cutOk, leB] at *; omega) | (have hf0 := h_x0.1.1; simp only [leB, decide_eq_true_eq, List.length_append, List.length_cons, List.length_nil]; omega)) (StE.chk (by first | exact idx_ok (by omega) | exact idx_ok (by have hq := len_eq (by assumption); omega) | exact idx_found (show (0 : Int) ≤ (wrap64 ((i2 : Int) - 1)) by simp_all) | exact cut_ok (by omega) | exact or_ok (idx_ok (by omega)) | (refine or1 (fun hz => pre_ok (by simp at hz; omega) (by omega) (by omega))) | exact pre_ok (by omega) (by omega) (by omega) | (simp_all [idxOk, cutOk, leB]; done) | (simp_all [idxOk, cutOk, leB]; omega) | (simp [idxOk, cutOk, leB] at *; omega) | (have hf0 := h_x0.1.1; simp only [leB, decide_eq_true_eq, List.length_append, List.length_cons, List.length_nil]; omega)) (StE.ifh (fun hc3 => (StE.ret _)) (fun hc3 => StE.next))))) (fun j hj => by
  simp only [spec_l2Fault.l1_s]
  exact Evt.f (ge_lt hj) (Evt.self _))) (fun _ => rfl) (Evt.self _))))))))))
def ruleL (r : Rule) (bl : List UInt8) : List UInt8 := dgL r.fNeed ++ bl ++ [111, 102] ++ bl ++ Lib.join (r.fKeys.map dgL) [44] ++ (bif r.fAfter != 0 then bl ++ [97, 102, 116, 101, 114] ++ bl ++ dgL r.fAfter else [])
structure RuleOK (r : Rule) : Prop where
  n1 : 1 ≤ r.fKeys.length
  n3 : r.fKeys.length ≤ 3
  key : ∀ x ∈ r.fKeys, 1 ≤ x ∧ x ≤ 999
  need : 1 ≤ r.fNeed ∧ r.fNeed ≤ 3
  after : 0 ≤ r.fAfter ∧ r.fAfter ≤ 999
theorem rule_ok (x0 : Rule) (h : (spec_l2Fault_v x0 != 0) = false) : RuleOK x0 := by
  have h0 : spec_l2Fault_v x0 = 0 := by simpa using h
  unfold spec_l2Fault_v at h0
  cases ha : spec_l1In_v (x0.fKeys.length : Int) 1 3
  · rw [ha] at h0; exact absurd (show (2 : Int) = 0 from h0) (by decide)
  · rw [ha] at h0
    have h1 : onO ((List.range' 0 (x0.fKeys.length - 0)).findSome? (fun (i0 : Nat) => (bif !(spec_l1Key_v (gt x0.fKeys (i0 : Int))) then (some (3 : Int)) else none))) (fun r => r) (bif ((!(spec_l1In_v x0.fNeed 1 (x0.fKeys.length : Int))) || (!(bif (!(!(spec_l1In_v x0.fNeed 1 (x0.fKeys.length : Int)))) then (spec_l2Height_v x0.fAfter) else default))) then 3 else (onO ((List.range' 1 (x0.fKeys.length - 1)).findSome? (fun (i2 : Nat) => (bif (decide ((gt x0.fKeys (i2 : Int)) ≤ (gt x0.fKeys (wrap64 ((i2 : Int) - 1))))) then (some 1) else none))) (fun r => r) 0)) = 0 := h0
    obtain ⟨h2, h3⟩ := onO_zero h1 (fun i => by cases spec_l1Key_v (gt x0.fKeys (i : Int)) <;> simp)
    have hk := fs_all h2
    simp only [spec_l1In_v, Bool.and_eq_true, decide_eq_true_eq] at ha
    cases hb : spec_l1In_v x0.fNeed 1 (x0.fKeys.length : Int)
    · rw [hb] at h3; exact absurd (show (3 : Int) = 0 from h3) (by decide)
    · cases hc : spec_l2Height_v x0.fAfter
      · rw [hb, hc] at h3; exact absurd (show (3 : Int) = 0 from h3) (by decide)
      · simp only [spec_l2Height_v, spec_l1In_v, Bool.and_eq_true, decide_eq_true_eq] at hb hc
        refine ⟨by omega, by omega, fun x hx => ?_, by omega, hc⟩
        obtain ⟨i, hi, rfl⟩ := List.getElem_of_mem hx
        have h4 := hk i hi
        rw [gt_eq (by simpa using hi)] at h4
        cases h5 : spec_l1Key_v x0.fKeys[i]
        · simp only [Int.toNat_natCast] at h4; rw [h5] at h4; cases h4
        · simp only [spec_l1Key_v, spec_l1In_v, Bool.and_eq_true, decide_eq_true_eq] at h5
          exact h5
theorem ruleL_len (r : Rule) (c : UInt8) (hr : RuleOK r) : (ruleL r [c]).length ≤ 50 := by
  have h1 := dg_l3 (n := r.fNeed) (by have := hr.need; omega)
  have h2 := dg_l3 (n := r.fAfter) (by have := hr.after; omega)
  have hk := join_le (m := 3) (n := 3) (sep := [44]) (xs := r.fKeys.map dgL) (by
    intro x hx
    obtain ⟨y, hy, rfl⟩ := List.mem_map.1 hx
    have := hr.key y hy
    exact dg_l3 (by omega)) (by rw [List.length_map]; exact hr.n3)
  simp only [List.length_cons, List.length_nil] at hk
  unfold ruleL
  cases r.fAfter != 0
  · simp only [cond_false, List.length_append, List.length_cons, List.length_nil]; omega
  · simp only [cond_true, List.length_append, List.length_cons, List.length_nil]; omega
def zRule : Rule := ⟨[], 0, 0⟩
def ruleWs (r : Rule) : List (List UInt8) := bif r.fAfter != 0 then [dgL r.fNeed, [111, 102], Lib.join (r.fKeys.map dgL) [44], [97, 102, 116, 101, 114], dgL r.fAfter] else [dgL r.fNeed, [111, 102], Lib.join (r.fKeys.map dgL) [44]]
theorem ruleL_words (r : Rule) (c : UInt8) : ruleL r [c] = Lib.join (ruleWs r) [c] := by
  unfold ruleL ruleWs
  cases r.fAfter != 0
  · simp only [cond_false]; rw [join3']; simp
  · simp only [cond_true]; rw [join5]; simp [List.append_assoc]
theorem no_keys {c : UInt8} (hc : c = 32 ∨ c = 95) (xs : List Int) : c ∉ Lib.join (xs.map dgL) [44] := fun h => by
  rcases mem_join h with h | ⟨p, hp, h⟩
  · rcases hc with rfl | rfl <;> exact absurd h (by decide)
  · obtain ⟨x, _, rfl⟩ := List.mem_map.1 hp
    rcases hc with rfl | rfl <;> exact dg_no nodg _ h
theorem rule_cut (r : Rule) (c : UInt8) (hc : c = 32 ∨ c = 95) : cutA c [] (ruleL r [c]) = ruleWs r := by
  have hd : ∀ n : Int, c ∉ dgL n := fun n => by rcases hc with rfl | rfl <;> exact dg_no nodg n
  have ho : c ∉ ([111, 102] : List UInt8) := by rcases hc with rfl | rfl <;> decide
  have ha : c ∉ ([97, 102, 116, 101, 114] : List UInt8) := by rcases hc with rfl | rfl <;> decide
  rw [ruleL_words]
  unfold ruleWs
  cases r.fAfter != 0
  · refine cutA_of_join c _ _ (fun p hp => ?_)
    simp only [List.mem_cons, List.not_mem_nil, or_false] at hp
    rcases hp with rfl | rfl | rfl
    · exact hd _
    · exact ho
    · exact no_keys hc _
  · refine cutA_of_join c _ _ (fun p hp => ?_)
    simp only [List.mem_cons, List.not_mem_nil, or_false] at hp
    rcases hp with rfl | rfl | rfl | rfl | rfl
    · exact hd _
    · exact ho
    · exact no_keys hc _
    · exact ha
    · exact hd _
theorem three {α : Type} {ws : List α} (h : ws.length = 3) : ∃ a b c, ws = [a, b, c] := by
  match ws, h with
  | [a, b, c], _ => exact ⟨a, b, c, rfl⟩
theorem three_sz {c : UInt8} {l w0 w1 w2 : List UInt8} (h : cutA c [] l = [w0, w1, w2]) : l = w0 ++ [c] ++ w1 ++ [c] ++ w2 := by
  have := cutA_join c l []
  rw [h, join3'] at this
  simpa using this.symm
theorem keys_ne {r : Rule} (hr : RuleOK r) : r.fKeys ≠ [] := fun e => by have := hr.n1; rw [e] at this; simp at this
theorem keys_len {r : Rule} (hr : RuleOK r) : (Lib.join (r.fKeys.map dgL) [44]).length ≤ 50 := by
  have h := ruleL_len r 32 hr
  unfold ruleL at h
  simp only [List.length_append, List.length_cons, List.length_nil] at h; omega
theorem Evt.bindc {A B γ : Type} {F : Nat → Option (A × B)} {G : Nat → A → B → Option γ} {a : A} {b : B} {r : γ} (h : Evt F (a, b)) (h2 : Evt (fun k => G k a b) r) : Evt (fun k => (F k).bind (cur2 (G k))) r := Evt.bind h h2
structure KeysUp (xs : List Int) : Prop where
  l1 : 1 ≤ xs.length
  l3 : xs.length ≤ 3
  up : xs.Pairwise (· < ·)
  key : ∀ x ∈ xs, 1 ≤ x ∧ x ≤ 3 * (xs.length : Int)
  last : ∀ x ∈ xs, x ≤ gt xs ((xs.length - 1 : Nat) : Int)
theorem KeysUp.snoc {xs : List Int} {y : Int} (h : KeysUp xs) (h2 : xs.length ≤ 2) (h3 : gt xs ((xs.length - 1 : Nat) : Int) < y) (h4 : y ≤ gt xs ((xs.length - 1 : Nat) : Int) + 2) : KeysUp (xs ++ [y]) := by
  have hl := h.l1
  have hg := h.key _ (gt_mem (xs := xs) (i := xs.length - 1) (by omega))
  have e : (xs ++ [y]).length = xs.length + 1 := by simp
  refine ⟨by omega, by omega, List.pairwise_append.2 ⟨h.up, by simp, fun a ha b hb => ?_⟩, fun x hx => ?_, fun x hx => ?_⟩
  · simp at hb; subst hb
    have := h.last a ha; omega
  · rw [e]
    rcases List.mem_append.1 hx with hx | hx
    · have := h.key x hx; omega
    · simp at hx; subst hx; omega
  · have e2 : gt (xs ++ [y]) (((xs ++ [y]).length - 1 : Nat) : Int) = y := by
      rw [e, Nat.add_sub_cancel, gt_eq (by simp)]
      simp
    rw [e2]
    rcases List.mem_append.1 hx with hx | hx
    · have := h.last x hx; omega
    · simp at hx; omega
theorem rule_zero (r : Rule) (h : KeysUp r.fKeys) (hn : 1 ≤ r.fNeed ∧ r.fNeed ≤ (r.fKeys.length : Int)) (ha : 0 ≤ r.fAfter ∧ r.fAfter ≤ 999) : spec_l2Fault_v r = 0 := by
  have l1 := h.l1; have l3 := h.l3
  have a1 : spec_l1In_v (r.fKeys.length : Int) 1 3 = true := by simp only [spec_l1In_v, Bool.and_eq_true, decide_eq_true_eq]; omega
  have a2 : spec_l1In_v r.fNeed 1 (r.fKeys.length : Int) = true := by simp only [spec_l1In_v, Bool.and_eq_true, decide_eq_true_eq]; omega
  have a3 : spec_l2Height_v r.fAfter = true := by simp only [spec_l2Height_v, spec_l1In_v, Bool.and_eq_true, decide_eq_true_eq]; omega
  have f1 : (List.range' 0 (r.fKeys.length - 0)).findSome? (fun (i0 : Nat) => (bif !(spec_l1Key_v (gt r.fKeys (i0 : Int))) then (some (3 : Int)) else none)) = none := by
    rw [List.findSome?_eq_none_iff]
    intro i hi
    have hlt : i < r.fKeys.length := by rw [List.mem_range'_1] at hi; omega
    have := h.key _ (gt_mem hlt)
    have hk : spec_l1Key_v (gt r.fKeys (i : Int)) = true := by simp only [spec_l1Key_v, spec_l1In_v, Bool.and_eq_true, decide_eq_true_eq]; omega
    rw [hk]; rfl
  have f2 : (List.range' 1 (r.fKeys.length - 1)).findSome? (fun (i2 : Nat) => (bif (decide ((gt r.fKeys (i2 : Int)) ≤ (gt r.fKeys (wrap64 ((i2 : Int) - 1))))) then (some (1 : Int)) else none)) = none := by
    rw [List.findSome?_eq_none_iff]
    intro i hi
    rw [List.mem_range'_1] at hi
    have hlt : i < r.fKeys.length := by omega
    have e : wrap64 ((i : Int) - 1) = ((i - 1 : Nat) : Int) := by rw [wrap64_in _ (by omega)]; omega
    have := List.pairwise_iff_getElem.1 h.up (i - 1) i (by omega) hlt (by omega)
    rw [e, gt_eq (by simpa using hlt), gt_eq (by simp; omega)]
    simp only [Int.toNat_natCast]
    rw [decide_eq_false (by omega)]; rfl
  unfold spec_l2Fault_v
  rw [a1, f1, a2, a3, f2]; rfl
theorem l2Draw_loop (c : List Int) (z : l1Src) (hz : z.fCode = c) (hc : codeOK c) : ∀ (d : Nat) (a : Int) (xs : List Int), 0 ≤ a → a + d ≤ 900000 → xs.length + d ≤ 3 → KeysUp xs → ∃ a' xs', Evt (fun k => spec_l2Draw.l0 z k a xs (d : Int)) (a', xs') ∧ a ≤ a' ∧ a' ≤ a + d ∧ KeysUp xs'
  | 0, a, xs, h0, h1, h2, h3 => by
    refine ⟨a, xs, Evt.s ?_, by omega, by omega, h3⟩
    simp only [spec_l2Draw.l0_s]
    exact Evt.f rfl (Evt.self _)
  | d + 1, a, xs, h0, h1, h2, h3 => by
    obtain ⟨v, ev, v0, v1⟩ := next_ev c a 2 hc (by omega) (by omega)
    have l1 := h3.l1
    have hg := h3.key _ (gt_mem (xs := xs) (i := xs.length - 1) (by omega))
    have hd : decide ((0 : Int) < ((d + 1 : Nat) : Int)) = true := decide_eq_true (by omega)
    have ew : wrap64 (((d + 1 : Nat) : Int) - 1) = (d : Int) := by rw [wrap64_in _ (by omega)]; omega
    have el : wrap64 ((xs.length : Int) - 1) = ((xs.length - 1 : Nat) : Int) := by rw [wrap64_in _ (by omega)]; omega
    have e1 : wrap64 (gt xs ((xs.length - 1 : Nat) : Int) + 1) = gt xs ((xs.length - 1 : Nat) : Int) + 1 := w_in (by omega)
    have e2 : wrap64 (gt xs ((xs.length - 1 : Nat) : Int) + 1 + v) = gt xs ((xs.length - 1 : Nat) : Int) + 1 + v := w_in (by omega)
    obtain ⟨a', xs', e, q1, q2, q3⟩ := l2Draw_loop c z hz hc d (a + 1) (xs ++ [gt xs ((xs.length - 1 : Nat) : Int) + 1 + v]) (by omega) (by omega) (by simp; omega) (h3.snoc (by omega) (by omega) (by omega))
    refine ⟨a', xs', Evt.s ?_, by omega, by omega, q3⟩
    simp only [spec_l2Draw.l0_s, hz, el]
    refine Evt.t hd (Evt.chk (idx_ok (by omega)) (Evt.bind ev ?_))
    simp only [e1, e2, ew]
    exact Evt.chk (leB_mk2 (by simp; omega)) e
theorem l2Draw_ev (c : List Int) (a : Int) (hc : codeOK c) (h0 : 0 ≤ a) (h1 : a ≤ 800000) : ∃ r a', Evt (fun k => spec_l2Draw.f k ⟨c, a⟩) (r, a') ∧ a ≤ a' ∧ a' ≤ a + 10 ∧ spec_l2Fault_v r = 0 := by
  obtain ⟨v1, e1, p1, q1⟩ := next_ev c a 3 hc (by omega) (by omega)
  obtain ⟨v2, e2, p2, q2⟩ := next_ev c (a + 1) 3 hc (by omega) (by omega)
  obtain ⟨n, rfl⟩ : ∃ n : Nat, v2 = n := ⟨v2.toNat, by omega⟩
  have w1 : wrap64 (1 + v1) = 1 + v1 := w_in (by omega)
  have hk0 : KeysUp [1 + v1] := ⟨by simp, by simp, by simp, fun x hx => by simp at hx; subst hx; simp; omega, fun x hx => by simp at hx; subst hx; exact Int.le_of_eq rfl⟩
  obtain ⟨a', xs, e3, r1, r2, r3⟩ := l2Draw_loop c ⟨c, a⟩ rfl hc n (a + 1 + 1) [1 + v1] (by omega) (by omega) (by simp; omega) hk0
  have l1 := r3.l1; have l3 := r3.l3
  obtain ⟨v4, e4, p4, q4⟩ := next_ev c a' (xs.length : Int) hc (by omega) (by omega)
  obtain ⟨v5, e5, p5, q5⟩ := next_ev c (a' + 1) 9 hc (by omega) (by omega)
  obtain ⟨v6, e6, m6⟩ := pick_ev c (a' + 1 + 1) [0, 0, 0, v5] hc (by omega) (by simp)
  have w4 : wrap64 (1 + v4) = 1 + v4 := w_in (by omega)
  have h6 : 0 ≤ v6 ∧ v6 ≤ 8 := by simp only [List.mem_cons, List.not_mem_nil, or_false] at m6; omega
  refine ⟨⟨xs, 1 + v4, v6⟩, a' + 1 + 1 + 1, ?_, by omega, by omega, rule_zero _ r3 ⟨by show 1 ≤ 1 + v4; omega, by show 1 + v4 ≤ (xs.length : Int); omega⟩ ⟨h6.1, by show v6 ≤ 999; omega⟩⟩
  refine Evt.bind e1 (Evt.bindc (Evt.bind e2 (show Evt (fun k => spec_l2Draw.l0 ⟨c, a⟩ k (a + 1 + 1) [wrap64 (1 + v1)] (n : Int)) (a', xs) by rw [w1]; exact e3)) (Evt.bind e4 (Evt.bind e5 (Evt.bind e6 (Evt.ret ?_)))))
  show ((⟨xs, wrap64 (1 + v4), v6⟩ : Rule), a' + 1 + 1 + 1) = _
  rw [w4]
def spec_l3Ref_v (x0 : Ref) : Bool := ((spec_l1In_v x0.fTx 1 60) && (bif (spec_l1In_v x0.fTx 1 60) then (spec_l1In_v x0.fAt 0 3) else default))
theorem spec_l3Ref_ev (x0 : Ref)  : Evt (fun k => spec_l3Ref.f k x0) (spec_l3Ref_v x0) :=
  (Evt.bind (spec_l1In_ev x0.fTx 1 60) (Evt.bind (Evt.ifh (fun _ => (spec_l1In_ev x0.fAt 0 3)) (fun _ => Evt.self _)) (Evt.self _)))
def spec_l3Outs_v (x0 : Tx) : Int := (onO ((List.range' 0 (x0.fOuts.length - 0)).findSome? (fun (i0 : Nat) => (bif !(spec_l1In_v ((gt x0.fOuts (i0 : Int)).fValue) 1 1000000) then (some 3) else (bif ((spec_l2Fault_v ((gt x0.fOuts (i0 : Int)).fRule)) != 0) then (some (spec_l2Fault_v ((gt x0.fOuts (i0 : Int)).fRule))) else none)))) (fun r => r) (bif ((x0.fKind == 1) && (decide (((gt x0.fOuts (0 : Int)).fValue) < 100))) then 8 else 0))
theorem spec_l3Outs_ev (x0 : Tx) (h_x0 : smTx x0) (hpre : 0 < x0.fOuts.length) : Evt (fun k => spec_l3Outs.f k x0) (spec_l3Outs_v x0) :=
  (Evt.loop (r' := fun r => r) (Evt.srch (L := (fun k i => spec_l3Outs.l0 x0 k i)) 0 x0.fOuts.length (by have := h_x0.2.2.2; first | (have := this.1; omega) | omega) (fun (i0 : Nat) => (bif !(spec_l1In_v ((gt x0.fOuts (i0 : Int)).fValue) 1 1000000) then (some 3) else (bif ((spec_l2Fault_v ((gt x0.fOuts (i0 : Int)).fRule)) != 0) then (some (spec_l2Fault_v ((gt x0.fOuts (i0 : Int)).fRule))) else none))) (fun i0 hs3 hi3 => by
  have hbn : x0.fOuts.length ≤ 9223372036854775807 := (by have := h_x0.2.2.2; first | (have := this.1; omega) | omega)
  simp only [spec_l3Outs.l0_s]
  exact Evt_t2 (int_lt hi3) (StE.chk (by first | exact idx_ok (by omega) | exact idx_ok (by have hq := len_eq (by assumption); omega) | exact idx_found (show (0 : Int) ≤ (i0 : Int) by simp_all) | exact cut_ok (by omega) | exact or_ok (idx_ok (by omega)) | (refine or1 (fun hz => pre_ok (by simp at hz; omega) (by omega) (by omega))) | exact pre_ok (by omega) (by omega) (by omega) | (simp_all [idxOk, cutOk, leB]; done) | (simp_all [idxOk, cutOk, leB]; omega) | (simp [idxOk, cutOk, leB] at *; omega) | (simp_all [idxOk]; omega) | (simp [idxOk]; omega) | (have hf0 := h_x0.2.2.1.1; have hf1 := h_x0.2.2.2.1; simp only [leB, decide_eq_true_eq, List.length_append, List.length_cons, List.length_nil]; omega)) (StE.bind (spec_l1In_ev ((gt x0.fOuts (i0 : Int)).fValue) 1 1000000) (StE.ifh (fun hc2 => (StE.ret _)) (fun hc2 => (StE.chk (by first | exact idx_ok (by omega) | exact idx_ok (by have hq := len_eq (by assumption); omega) | exact idx_found (show (0 : Int) ≤ (i0 : Int) by simp_all) | exact cut_ok (by omega) | exact or_ok (idx_ok (by omega)) | (refine or1 (fun hz => pre_ok (by simp at hz; omega) (by omega) (by omega))) | exact pre_ok (by omega) (by omega) (by omega) | (simp_all [idxOk, cutOk, leB]; done) | (simp_all [idxOk, cutOk, leB]; omega) | (simp [idxOk, cutOk, leB] at *; omega) | (simp_all [idxOk]; omega) | (simp [idxOk]; omega) | (have hf0 := h_x0.2.2.1.1; have hf1 := h_x0.2.2.2.1; simp only [leB, decide_eq_true_eq, List.length_append, List.length_cons, List.length_nil]; omega)) (StE.bind (spec_l2Fault_ev ((gt x0.fOuts (i0 : Int)).fRule) (((h_x0.2.2.2).2 _ (gt_mem (by first | omega | (have hq := len_eq (by assumption); omega) | (simp_all [idxOk]; omega) | (simp [idxOk]; omega) | (have hf0 := h_x0.2.2.1.1; have hf1 := h_x0.2.2.2.1; simp only [leB, decide_eq_true_eq, List.length_append, List.length_cons, List.length_nil]; omega)))).2)) (StE.ifh (fun hc1 => (StE.ret _)) (fun hc1 => StE.next))))))))) (fun j hj => by
  simp only [spec_l3Outs.l0_s]
  exact Evt.f (ge_lt hj) (Evt.self _))) (fun _ => rfl) (Evt.chk (by first | exact idx_ok (by omega) | exact idx_ok (by have hq := len_eq (by assumption); omega) | exact idx_found (by simp_all) | exact cut_ok (by omega) | exact or_ok (idx_ok (by omega)) | (refine or1 (fun hz => pre_ok (by simp at hz; omega) (by omega) (by omega))) | exact pre_ok (by omega) (by omega) (by omega) | (simp_all [idxOk, cutOk, leB]; done) | (simp_all [idxOk, cutOk, leB]; omega) | (simp [idxOk, cutOk, leB] at *; omega) | (simp_all [idxOk]; omega) | (simp [idxOk]; omega) | (have hf0 := h_x0.2.2.1.1; have hf1 := h_x0.2.2.2.1; simp only [leB, decide_eq_true_eq, List.length_append, List.length_cons, List.length_nil]; omega)) (Evt.ifh (fun hc3 => (Evt.self _)) (fun hc3 => (Evt.self _)))))
def spec_l3Fault_v (x0 : Tx) : Int := (bif ((!(spec_l1In_v x0.fKind 0 2)) || ((x0.fKind == 0) != (x0.fMember == 0))) then 1 else (bif ((x0.fKind != 0) && (!(bif (x0.fKind != 0) then (spec_l1Key_v x0.fMember) else default))) then 3 else (bif ((!(spec_l1In_v (x0.fIns.length : Int) 1 4)) || (!(bif (!(!(spec_l1In_v (x0.fIns.length : Int) 1 4))) then (spec_l1In_v (x0.fOuts.length : Int) 1 4) else default))) then 2 else (onO ((List.range' 0 (x0.fIns.length - 0)).findSome? (fun (i0 : Nat) => (bif !(spec_l3Ref_v (gt x0.fIns (i0 : Int))) then (some 3) else (bif (spec_l3Among_v (x0.fIns.take ((i0 : Int)).toNat) (gt x0.fIns (i0 : Int))) then (some 7) else none)))) (fun r => r) (spec_l3Outs_v x0)))))
theorem spec_l3Fault_ev (x0 : Tx) (h_x0 : smTx x0) : Evt (fun k => spec_l3Fault.f k x0) (spec_l3Fault_v x0) :=
  (Evt.bind (spec_l1In_ev x0.fKind 0 2) (Evt.ifh (fun hc5 => (Evt.self _)) (fun hc5 => (Evt.bind (Evt.ifh (fun _ => (spec_l1Key_ev x0.fMember)) (fun _ => Evt.self _)) (Evt.ifh (fun hc4 => (Evt.self _)) (fun hc4 => (Evt.bind (spec_l1In_ev (x0.fIns.length : Int) 1 4) (Evt.bind (Evt.ifh (fun _ => (spec_l1In_ev (x0.fOuts.length : Int) 1 4)) (fun _ => Evt.self _)) (Evt.ifh (fun hc3 => (Evt.self _)) (fun hc3 => (Evt.loop (r' := fun r => r) (Evt.srch (L := (fun k i => spec_l3Fault.l0 x0 k i)) 0 x0.fIns.length (by have := h_x0.2.2.1; first | (have := this.1; omega) | omega) (fun (i0 : Nat) => (bif !(spec_l3Ref_v (gt x0.fIns (i0 : Int))) then (some 3) else (bif (spec_l3Among_v (x0.fIns.take ((i0 : Int)).toNat) (gt x0.fIns (i0 : Int))) then (some 7) else none))) (fun i0 hs3 hi3 => by
  have hbn : x0.fIns.length ≤ 9223372036854775807 := (by have := h_x0.2.2.1; first | (have := this.1; omega) | omega)
  simp only [spec_l3Fault.l0_s]
  exact Evt_t2 (int_lt hi3) (StE.chk (by first | exact idx_ok (by omega) | exact idx_ok (by have hq := len_eq (by assumption); omega) | exact idx_found (show (0 : Int) ≤ (i0 : Int) by simp_all) | exact cut_ok (by omega) | exact or_ok (idx_ok (by omega)) | (refine or1 (fun hz => pre_ok (by simp at hz; omega) (by omega) (by omega))) | exact pre_ok (by omega) (by omega) (by omega) | (simp_all [idxOk, cutOk, leB]; done) | (simp_all [idxOk, cutOk, leB]; omega) | (simp [idxOk, cutOk, leB] at *; omega) | (simp_all [spec_l1In_v]; omega) | (have hf0 := h_x0.2.2.1.1; have hf1 := h_x0.2.2.2.1; simp only [leB, decide_eq_true_eq, List.length_append, List.length_cons, List.length_nil]; omega)) (StE.bind (spec_l3Ref_ev (gt x0.fIns (i0 : Int))) (StE.ifh (fun hc2 => (StE.ret _)) (fun hc2 => (StE.chk (by first | exact idx_ok (by omega) | exact idx_ok (by have hq := len_eq (by assumption); omega) | exact idx_found (by simp_all) | exact cut_ok (by omega) | exact or_ok (idx_ok (by omega)) | (refine or1 (fun hz => pre_ok (by simp at hz; omega) (by omega) (by omega))) | exact pre_ok (by omega) (by omega) (by omega) | (simp_all [idxOk, cutOk, leB]; done) | (simp_all [idxOk, cutOk, leB]; omega) | (simp [idxOk, cutOk, leB] at *; omega) | (simp_all [spec_l1In_v]; omega) | (have hf0 := h_x0.2.2.1.1; have hf1 := h_x0.2.2.2.1; simp only [leB, decide_eq_true_eq, List.length_append, List.length_cons, List.length_nil]; omega)) (StE.chk (by first | exact idx_ok (by omega) | exact idx_ok (by have hq := len_eq (by assumption); omega) | exact idx_found (show (0 : Int) ≤ (i0 : Int) by simp_all) | exact cut_ok (by omega) | exact or_ok (idx_ok (by omega)) | (refine or1 (fun hz => pre_ok (by simp at hz; omega) (by omega) (by omega))) | exact pre_ok (by omega) (by omega) (by omega) | (simp_all [idxOk, cutOk, leB]; done) | (simp_all [idxOk, cutOk, leB]; omega) | (simp [idxOk, cutOk, leB] at *; omega) | (simp_all [spec_l1In_v]; omega) | (have hf0 := h_x0.2.2.1.1; have hf1 := h_x0.2.2.2.1; simp only [leB, decide_eq_true_eq, List.length_append, List.length_cons, List.length_nil]; omega)) (StE.bind (spec_l3Among_ev (x0.fIns.take ((i0 : Int)).toNat) (gt x0.fIns (i0 : Int)) ((Lm_take h_x0.2.2.1))) (StE.ifh (fun hc1 => (StE.ret _)) (fun hc1 => StE.next)))))))))) (fun j hj => by
  simp only [spec_l3Fault.l0_s]
  exact Evt.f (ge_lt hj) (Evt.self _))) (fun _ => rfl) (Evt.bind (spec_l3Outs_ev x0 (h_x0) (by first | assumption | (simp_all; omega) | (simp_all [spec_l1In_v]; omega) | (have hf0 := h_x0.2.2.1.1; have hf1 := h_x0.2.2.2.1; simp only [leB, decide_eq_true_eq, List.length_append, List.length_cons, List.length_nil]; omega))) (Evt.self _)))))))))))))
def refL (r : Ref) : List UInt8 := dgL r.fTx ++ [58] ++ dgL r.fAt
def outL (o : Out) : List UInt8 := dgL o.fValue ++ [61] ++ ruleL o.fRule [95]
def kindW (k : Int) : List UInt8 := bif k == 0 then [112, 97, 121] else bif k == 1 then [106, 111, 105, 110] else [108, 101, 97, 118, 101]
def txHead (t : Tx) : List (List UInt8) := bif t.fKind != 0 then [kindW t.fKind, dgL t.fMember] else [kindW t.fKind]
def txWs (t : Tx) : List (List UInt8) := txHead t ++ [Lib.join (t.fIns.map refL) [43]] ++ t.fOuts.map outL
def txL (t : Tx) : List UInt8 := Lib.join (txWs t) [32]
structure TxOK (t : Tx) : Prop where
  kind : 0 ≤ t.fKind ∧ t.fKind ≤ 2
  mem0 : t.fKind = 0 → t.fMember = 0
  mem : t.fKind ≠ 0 → 1 ≤ t.fMember ∧ t.fMember ≤ 999
  ins1 : 1 ≤ t.fIns.length
  ins4 : t.fIns.length ≤ 4
  outs1 : 1 ≤ t.fOuts.length
  outs4 : t.fOuts.length ≤ 4
  ins : ∀ r ∈ t.fIns, (1 ≤ r.fTx ∧ r.fTx ≤ 60) ∧ 0 ≤ r.fAt ∧ r.fAt ≤ 3
  outs : ∀ o ∈ t.fOuts, (1 ≤ o.fValue ∧ o.fValue ≤ 1000000) ∧ spec_l2Fault_v o.fRule = 0
theorem tx_ok (x0 : Tx) (h : (spec_l3Fault_v x0 != 0) = false) : TxOK x0 := by
  have h0 : spec_l3Fault_v x0 = 0 := by simpa using h
  unfold spec_l3Fault_v at h0
  cases hc : ((!(spec_l1In_v x0.fKind 0 2)) || ((x0.fKind == 0) != (x0.fMember == 0)))
  · rw [hc] at h0
    cases hd : ((x0.fKind != 0) && (!(bif (x0.fKind != 0) then (spec_l1Key_v x0.fMember) else default)))
    · rw [hd] at h0
      cases he : ((!(spec_l1In_v (x0.fIns.length : Int) 1 4)) || (!(bif (!(!(spec_l1In_v (x0.fIns.length : Int) 1 4))) then (spec_l1In_v (x0.fOuts.length : Int) 1 4) else default)))
      · rw [he] at h0
        have h1 : onO ((List.range' 0 (x0.fIns.length - 0)).findSome? (fun (i0 : Nat) => (bif !(spec_l3Ref_v (gt x0.fIns (i0 : Int))) then (some (3 : Int)) else (bif (spec_l3Among_v (x0.fIns.take ((i0 : Int)).toNat) (gt x0.fIns (i0 : Int))) then (some 7) else none)))) (fun r => r) (spec_l3Outs_v x0) = 0 := h0
        obtain ⟨h2, h3⟩ := onO_zero h1 (fun i => by
          cases spec_l3Ref_v (gt x0.fIns (i : Int))
          · simp
          · cases spec_l3Among_v (x0.fIns.take ((i : Int)).toNat) (gt x0.fIns (i : Int)) <;> simp)
        have hk := fs_all h2
        unfold spec_l3Outs_v at h3
        obtain ⟨h4, _⟩ := onO_zero h3 (fun i => by
          cases spec_l1In_v ((gt x0.fOuts (i : Int)).fValue) 1 1000000
          · simp
          · cases hq : spec_l2Fault_v ((gt x0.fOuts (i : Int)).fRule) != 0
            · simp
            · simp only [Bool.not_true, cond_false, cond_true]
              intro e
              rw [Option.some.inj e] at hq; cases hq)
        have hl := fs_all h4
        simp only [spec_l1In_v, spec_l1Key_v, Bool.or_eq_false_iff, Bool.not_eq_false', Bool.and_eq_true, decide_eq_true_eq] at hc he
        obtain ⟨hc1, hc2⟩ := hc
        obtain ⟨he1, he2⟩ := he
        have he3 : 1 ≤ (x0.fOuts.length : Int) ∧ (x0.fOuts.length : Int) ≤ 4 := by
          have e : (decide (1 ≤ (x0.fIns.length : Int)) && decide ((x0.fIns.length : Int) ≤ 4)) = true := by rw [Bool.and_eq_true, decide_eq_true_eq, decide_eq_true_eq]; exact he1
          rw [e] at he2
          have he2' : (decide (1 ≤ (x0.fOuts.length : Int)) && decide ((x0.fOuts.length : Int) ≤ 4)) = true := he2
          rwa [Bool.and_eq_true, decide_eq_true_eq, decide_eq_true_eq] at he2'
        have hc3 : (x0.fKind == 0) = (x0.fMember == 0) := by
          cases e1 : (x0.fKind == 0) <;> cases e2 : (x0.fMember == 0) <;> rw [e1, e2] at hc2 <;> first | rfl | cases hc2
        refine ⟨hc1, fun hz => ?_, fun hz => ?_, by omega, by omega, by omega, by omega, fun r hr => ?_, fun o ho => ?_⟩
        · have : (x0.fMember == 0) = true := by rw [← hc3, hz]; rfl
          simpa using this
        · have e1 : (x0.fKind != 0) = true := by simpa using hz
          rw [e1] at hd
          have hd' : spec_l1Key_v x0.fMember = true := by
            cases hq : spec_l1Key_v x0.fMember
            · rw [hq] at hd; cases hd
            · rfl
          simpa only [spec_l1Key_v, spec_l1In_v, Bool.and_eq_true, decide_eq_true_eq] using hd'
        · obtain ⟨i, hi, rfl⟩ := List.getElem_of_mem hr
          have h5 := hk i hi
          rw [gt_eq (by simpa using hi)] at h5
          cases h6 : spec_l3Ref_v x0.fIns[i]
          · simp only [Int.toNat_natCast] at h5; rw [h6] at h5; cases h5
          · unfold spec_l3Ref_v at h6
            rw [Bool.and_eq_true] at h6
            rw [h6.1] at h6
            have h7 : spec_l1In_v x0.fIns[i].fAt 0 3 = true := h6.2
            have h8 := h6.1
            simp only [spec_l1In_v, Bool.and_eq_true, decide_eq_true_eq] at h7
            refine ⟨?_, h7⟩
            have h9 : spec_l1In_v x0.fIns[i].fTx 1 60 = true := by
              cases hq : spec_l1In_v x0.fIns[i].fTx 1 60
              · have h5' := hk i hi
                rw [gt_eq (by simpa using hi)] at h5'
                simp only [Int.toNat_natCast, spec_l3Ref_v] at h5'
                rw [hq] at h5'; cases h5'
              · rfl
            simpa only [spec_l1In_v, Bool.and_eq_true, decide_eq_true_eq] using h9
        · obtain ⟨i, hi, rfl⟩ := List.getElem_of_mem ho
          have h5 := hl i hi
          rw [gt_eq (by simpa using hi)] at h5
          simp only [Int.toNat_natCast] at h5
          cases h6 : spec_l1In_v x0.fOuts[i].fValue 1 1000000
          · rw [h6] at h5; cases h5
          · rw [h6] at h5
            simp only [spec_l1In_v, Bool.and_eq_true, decide_eq_true_eq] at h6
            refine ⟨h6, ?_⟩
            cases h7 : spec_l2Fault_v x0.fOuts[i].fRule != 0
            · simpa using h7
            · rw [h7] at h5; cases h5
      · rw [he] at h0; exact absurd (show (2 : Int) = 0 from h0) (by decide)
    · rw [hd] at h0; exact absurd (show (3 : Int) = 0 from h0) (by decide)
  · rw [hc] at h0; exact absurd (show (1 : Int) = 0 from h0) (by decide)
theorem refL_len {r : Ref} (h : (1 ≤ r.fTx ∧ r.fTx ≤ 60) ∧ 0 ≤ r.fAt ∧ r.fAt ≤ 3) : (refL r).length ≤ 4 := by
  have h1 := dg_l2 (n := r.fTx) (by omega)
  have h2 := dg_l1 (n := r.fAt) (by omega)
  unfold refL
  simp only [List.length_append, List.length_cons, List.length_nil]; omega
theorem outL_len {o : Out} (h : (1 ≤ o.fValue ∧ o.fValue ≤ 1000000) ∧ spec_l2Fault_v o.fRule = 0) : (outL o).length ≤ 58 := by
  have h1 := dg_l7 (n := o.fValue) (by omega)
  have h2 := ruleL_len o.fRule 95 (rule_ok o.fRule (by rw [h.2]; rfl))
  unfold outL
  simp only [List.length_append, List.length_cons, List.length_nil]; omega
theorem ins_len {t : Tx} (ht : TxOK t) : (Lib.join (t.fIns.map refL) [43]).length ≤ 20 := by
  have hk := join_le (m := 4) (n := 4) (sep := [43]) (xs := t.fIns.map refL) (by
    intro x hx
    obtain ⟨y, hy, rfl⟩ := List.mem_map.1 hx
    exact refL_len (ht.ins y hy)) (by rw [List.length_map]; exact ht.ins4)
  simp only [List.length_cons, List.length_nil] at hk; omega
theorem kindW_len (k : Int) : (kindW k).length ≤ 5 := by unfold kindW; cases k == 0 <;> cases k == 1 <;> decide
theorem txWs_len {t : Tx} (ht : TxOK t) : (txWs t).length ≤ 7 ∧ ∀ p ∈ txWs t, p.length ≤ 58 := by
  have ho := ht.outs4
  refine ⟨?_, fun p hp => ?_⟩
  · unfold txWs txHead
    cases t.fKind != 0 <;> simp <;> omega
  · unfold txWs at hp
    rcases List.mem_append.1 hp with hp | hp
    · rcases List.mem_append.1 hp with hp | hp
      · unfold txHead at hp
        have hk := kindW_len t.fKind
        cases hz : t.fKind != 0
        · rw [hz] at hp; simp at hp; subst hp; omega
        · rw [hz] at hp
          have hm := dg_l3 (n := t.fMember) (by have := ht.mem (by simpa using hz); omega)
          simp at hp; rcases hp with rfl | rfl <;> omega
      · have := ins_len ht
        simp at hp; subst hp; omega
    · obtain ⟨o, ho, rfl⟩ := List.mem_map.1 hp
      exact outL_len (ht.outs o ho)
theorem txL_len {t : Tx} (ht : TxOK t) : (txL t).length ≤ 413 := by
  obtain ⟨h1, h2⟩ := txWs_len ht
  have hk := join_le (m := 58) (n := 7) (sep := [32]) h2 h1
  simp only [List.length_cons, List.length_nil] at hk
  unfold txL; omega
theorem tail_app (s : List UInt8) (a b : List (List UInt8)) : Lib.joinTail s (a ++ b) = Lib.joinTail s a ++ Lib.joinTail s b := by simp [Lib.joinTail]
theorem txL_eq (t : Tx) : txL t = (bif t.fKind != 0 then kindW t.fKind ++ [32] ++ dgL t.fMember else kindW t.fKind) ++ [32] ++ Lib.join (t.fIns.map refL) [43] ++ Lib.joinTail [32] (t.fOuts.map outL) := by
  unfold txL txWs txHead
  cases t.fKind != 0
  · simp only [cond_false]
    rw [List.append_assoc, List.cons_append, List.nil_append, Lib.join_cons, tail_app]
    simp [Lib.joinTail]
  · simp only [cond_true]
    rw [List.append_assoc, List.cons_append, Lib.join_cons, tail_app, tail_app]
    simp [Lib.joinTail]
def zTx : Tx := ⟨0, 0, [], []⟩
theorem rule_mem {b c : UInt8} {r : Rule} (h : b ∈ ruleL r [c]) : isDg b ∨ b = c ∨ b ∈ ([111, 102, 44, 97, 116, 101, 114] : List UInt8) := by
  have hd : ∀ n : Int, b ∈ dgL n → isDg b := fun n h => (dec_is n.toNat).1 b h
  have hj : b ∈ Lib.join (r.fKeys.map dgL) [44] → isDg b ∨ b = 44 := fun h => by
    rcases mem_join h with h | ⟨p, hp, h⟩
    · exact .inr (by simpa using h)
    · obtain ⟨x, _, rfl⟩ := List.mem_map.1 hp
      exact .inl (hd _ h)
  unfold ruleL at h
  cases hq : r.fAfter != 0
  · rw [hq] at h
    simp only [cond_false, List.append_nil, List.mem_append, List.mem_cons, List.not_mem_nil, or_false] at h
    rcases h with (((h | h) | (h | h)) | h) | h
    · exact .inl (hd _ h)
    · exact .inr (.inl h)
    · exact .inr (.inr (by simp [h]))
    · exact .inr (.inr (by simp [h]))
    · exact .inr (.inl h)
    · rcases hj h with h | h
      · exact .inl h
      · exact .inr (.inr (by simp [h]))
  · rw [hq] at h
    simp only [cond_true, List.mem_append, List.mem_cons, List.not_mem_nil, or_false] at h
    rcases h with ((((h | h) | (h | h)) | h) | h) | (((h | h) | h) | h)
    · exact .inl (hd _ h)
    · exact .inr (.inl h)
    · exact .inr (.inr (by simp [h]))
    · exact .inr (.inr (by simp [h]))
    · exact .inr (.inl h)
    · rcases hj h with h | h
      · exact .inl h
      · exact .inr (.inr (by simp [h]))
    · exact .inr (.inl h)
    · rcases h with h | h | h | h | h <;> exact .inr (.inr (by simp [h]))
    · exact .inr (.inl h)
    · exact .inl (hd _ h)
theorem rule_no {b c : UInt8} (r : Rule) (h1 : ¬ isDg b) (h2 : b ≠ c) (h3 : b ∉ ([111, 102, 44, 97, 116, 101, 114] : List UInt8)) : b ∉ ruleL r [c] := fun h => by
  rcases rule_mem h with h | h | h
  · exact h1 h
  · exact h2 h
  · exact h3 h
theorem ref_no {b : UInt8} (r : Ref) (h1 : ¬ isDg b) (h2 : b ≠ 58) : b ∉ refL r := fun h => by
  unfold refL at h
  simp only [List.mem_append, List.mem_cons, List.not_mem_nil, or_false] at h
  rcases h with (h | h) | h
  · exact dg_no h1 _ h
  · exact h2 h
  · exact dg_no h1 _ h
theorem cut_ref (r : Ref) : cutA 58 [] (refL r) = [dgL r.fTx, dgL r.fAt] := cut2 (dg_no nodg _) (dg_no nodg _)
theorem cut_out (o : Out) : cutA 61 [] (outL o) = [dgL o.fValue, ruleL o.fRule [95]] := cut2 (dg_no nodg _) (rule_no _ nodg (by decide) (by decide))
theorem cut_refs (rs : List Ref) (h : rs ≠ []) : cutA 43 [] (Lib.join (rs.map refL) [43]) = rs.map refL := by
  cases rs with
  | nil => exact absurd rfl h
  | cons r q => exact cutA_of_join 43 (refL r) (q.map refL) (fun p hp => by
      obtain ⟨y, _, rfl⟩ := List.mem_map.1 (show p ∈ (r :: q).map refL from hp)
      exact ref_no y nodg (by decide))
theorem kindW_no (k : Int) : (32 : UInt8) ∉ kindW k := by unfold kindW; cases k == 0 <;> cases k == 1 <;> decide
theorem tx_words (t : Tx) : ∀ p ∈ txWs t, (32 : UInt8) ∉ p := fun p hp => by
  unfold txWs at hp
  rcases List.mem_append.1 hp with hp | hp
  · rcases List.mem_append.1 hp with hp | hp
    · unfold txHead at hp
      cases hz : t.fKind != 0
      · rw [hz] at hp; simp at hp; subst hp; exact kindW_no _
      · rw [hz] at hp
        simp at hp
        rcases hp with rfl | rfl
        · exact kindW_no _
        · exact dg_no nodg _
    · simp at hp; subst hp
      intro h
      rcases mem_join h with h | ⟨q, hq, h⟩
      · exact absurd h (by decide)
      · obtain ⟨r, _, rfl⟩ := List.mem_map.1 hq
        exact ref_no r nodg (by decide) h
  · obtain ⟨o, _, rfl⟩ := List.mem_map.1 hp
    intro h
    unfold outL at h
    simp only [List.mem_append, List.mem_cons, List.not_mem_nil, or_false] at h
    rcases h with (h | h) | h
    · exact dg_no nodg _ h
    · exact absurd h (by decide)
    · exact rule_no _ nodg (by decide) (by decide) h
theorem tx_cut (t : Tx) : cutA 32 [] (txL t) = txWs t := by
  have h := tx_words t
  unfold txL
  cases hw : txWs t with
  | nil =>
    exfalso
    unfold txWs at hw
    simp at hw
  | cons x r => exact cutA_of_join 32 x r (fun p hp => h p (by rw [hw]; exact hp))
theorem sm_rule {r : Rule} (h : spec_l2Fault_v r = 0) : smRule r := ⟨⟨by have := (rule_ok r (by rw [h]; rfl)).n3; omega, fun _ _ => trivial⟩, trivial, trivial⟩
theorem sm_tx (K M : Int) (is : List Ref) (os : List Out) (hi : is.length ≤ 1048576) (ho : os.length ≤ 1048576) (h : ∀ o ∈ os, spec_l2Fault_v o.fRule = 0) : smTx ⟨K, M, is, os⟩ :=
  ⟨trivial, trivial, ⟨hi, fun _ _ => ⟨trivial, trivial⟩⟩, ⟨ho, fun o ho => ⟨trivial, sm_rule (h o ho)⟩⟩⟩
def okR (r : Ref) : Prop := (1 ≤ r.fTx ∧ r.fTx ≤ 60) ∧ 0 ≤ r.fAt ∧ r.fAt ≤ 3
def okO (o : Out) : Prop := (1 ≤ o.fValue ∧ o.fValue ≤ 1000000) ∧ spec_l2Fault_v o.fRule = 0
theorem l3Draw_l0 (c : List Int) (z : l1Src) (hz : z.fCode = c) (hc : codeOK c) : ∀ (d : Nat) (a : Int) (xs : List Ref), 0 ≤ a → a + 2 * d ≤ 900000 → xs.length + d ≤ 2 → (∀ r ∈ xs, okR r) → ∃ a' xs', Evt (fun k => spec_l3Draw.l0 z k a xs (d : Int)) (a', xs') ∧ a ≤ a' ∧ a' ≤ a + 2 * d ∧ xs'.length ≤ 2 ∧ (∀ r ∈ xs', okR r) ∧ (1 ≤ xs.length + d → 1 ≤ xs'.length)
  | 0, a, xs, h0, h1, h2, h3 => by
    refine ⟨a, xs, Evt.s ?_, by omega, by omega, by omega, h3, fun h => by omega⟩
    simp only [spec_l3Draw.l0_s]
    exact Evt.f rfl (Evt.self _)
  | d + 1, a, xs, h0, h1, h2, h3 => by
    obtain ⟨v, ev, v0, v1⟩ := next_ev c a 6 hc (by omega) (by omega)
    obtain ⟨u, eu, u0, u1⟩ := next_ev c (a + 1) 2 hc (by omega) (by omega)
    have hd : decide ((0 : Int) < ((d + 1 : Nat) : Int)) = true := decide_eq_true (by omega)
    have ew : wrap64 (((d + 1 : Nat) : Int) - 1) = (d : Int) := by rw [wrap64_in _ (by omega)]; omega
    have e1 : wrap64 (1 + v) = 1 + v := w_in (by omega)
    have ea := spec_l3Among_ev xs ⟨1 + v, u⟩ ⟨by omega, fun _ _ => ⟨trivial, trivial⟩⟩
    cases hm : spec_l3Among_v xs ⟨1 + v, u⟩
    · obtain ⟨a', xs', e, q1, q2, q3, q4, q5⟩ := l3Draw_l0 c z hz hc d (a + 1 + 1) (xs ++ [⟨1 + v, u⟩]) (by omega) (by omega) (by simp; omega) (fun x hx => by
        rcases List.mem_append.1 hx with hx | hx
        · exact h3 x hx
        · simp at hx; subst hx; exact ⟨⟨by show 1 ≤ 1 + v; omega, by show 1 + v ≤ 60; omega⟩, u0, by show u ≤ 3; omega⟩)
      refine ⟨a', xs', Evt.s ?_, by omega, by omega, q3, q4, fun _ => q5 (by rw [List.length_append]; simp only [List.length_cons, List.length_nil]; omega)⟩
      simp only [spec_l3Draw.l0_s, hz]
      refine Evt.t hd (Evt.bind ev (Evt.bind eu ?_))
      simp only [e1, ew]
      exact Evt.bind ea (Evt.t (by rw [hm]; rfl) (Evt.chk (leB_mk2 (by simp; omega)) e))
    · have hne : 1 ≤ xs.length := by
        cases xs with
        | nil => exact absurd ((rfl : spec_l3Among_v [] ⟨1 + v, u⟩ = false).symm.trans hm) Bool.false_ne_true
        | cons x xs => simp
      obtain ⟨a', xs', e, q1, q2, q3, q4, q5⟩ := l3Draw_l0 c z hz hc d (a + 1 + 1) xs (by omega) (by omega) (by omega) h3
      refine ⟨a', xs', Evt.s ?_, by omega, by omega, q3, q4, fun _ => q5 (by omega)⟩
      simp only [spec_l3Draw.l0_s, hz]
      refine Evt.t hd (Evt.bind ev (Evt.bind eu ?_))
      simp only [e1, ew]
      exact Evt.bind ea (Evt.f (by rw [hm]; rfl) e)
theorem l3Draw_l1 (c : List Int) (z : l1Src) (hz : z.fCode = c) (hc : codeOK c) : ∀ (d : Nat) (a : Int) (xs : List Out), 0 ≤ a → a + 20 * d ≤ 700000 → xs.length + d ≤ 2 → (∀ o ∈ xs, okO o) → ∃ a' xs', Evt (fun k => spec_l3Draw.l1 z k a xs (d : Int)) (a', xs') ∧ a ≤ a' ∧ a' ≤ a + 20 * d ∧ xs'.length = xs.length + d ∧ (∀ o ∈ xs', okO o)
  | 0, a, xs, h0, h1, h2, h3 => by
    refine ⟨a, xs, Evt.s ?_, by omega, by omega, by omega, h3⟩
    simp only [spec_l3Draw.l1_s]
    exact Evt.f rfl (Evt.self _)
  | d + 1, a, xs, h0, h1, h2, h3 => by
    obtain ⟨v, ev, v0, v1⟩ := next_ev c a 99 hc (by omega) (by omega)
    obtain ⟨r, b, er, r0, r1, hr⟩ := l2Draw_ev c (a + 1) hc (by omega) (by omega)
    have hd : decide ((0 : Int) < ((d + 1 : Nat) : Int)) = true := decide_eq_true (by omega)
    have ew : wrap64 (((d + 1 : Nat) : Int) - 1) = (d : Int) := by rw [wrap64_in _ (by omega)]; omega
    have e1 : wrap64 (100 + v) = 100 + v := w_in (by omega)
    obtain ⟨a', xs', e, q1, q2, q3, q4⟩ := l3Draw_l1 c z hz hc d b (xs ++ [⟨100 + v, ⟨r.fKeys, r.fNeed, r.fAfter⟩⟩]) (by omega) (by omega) (by simp; omega) (fun x hx => by
      rcases List.mem_append.1 hx with hx | hx
      · exact h3 x hx
      · simp at hx; subst hx; exact ⟨⟨by show 1 ≤ 100 + v; omega, by show 100 + v ≤ 1000000; omega⟩, hr⟩)
    refine ⟨a', xs', Evt.s ?_, by omega, by omega, by rw [q3]; simp; omega, q4⟩
    simp only [spec_l3Draw.l1_s, hz]
    refine Evt.t hd (Evt.bind ev (Evt.bind er ?_))
    simp only [e1, ew]
    exact Evt.chk (leB_mk2 (by simp; omega)) e
theorem l3Draw_ev (c : List Int) (a : Int) (hc : codeOK c) (h0 : 0 ≤ a) (h1 : a ≤ 600000) : ∃ t a', Evt (fun k => spec_l3Draw.f k ⟨c, a⟩) (t, a') ∧ a ≤ a' ∧ a' ≤ a + 100 ∧ TxOK t := by
  obtain ⟨v1, e1, m1⟩ := pick_ev c a [0, 0, 0, 1, 2] hc (by omega) (by simp)
  have hv1 : 0 ≤ v1 ∧ v1 ≤ 2 := by simp only [List.mem_cons, List.not_mem_nil, or_false] at m1; omega
  obtain ⟨v2, e2, p2, q2⟩ := next_ev c (a + 1) 4 hc (by omega) (by omega)
  have w2 : wrap64 (1 + v2) = 1 + v2 := w_in (by omega)
  obtain ⟨b, m, eb, hb1, hb2, hm0, hm1⟩ : ∃ b m : Int, Evt (fun k => (bif (v1 != 0) then ((spec_l1Next.f k (⟨c, a + 1⟩ : l1Src) 4).bind fun t926 => some (t926.2, wrap64 (1 + t926.1))) else some (a + 1, 0))) (b, m) ∧ a + 1 ≤ b ∧ b ≤ a + 2 ∧ (v1 = 0 → m = 0) ∧ (v1 ≠ 0 → 1 ≤ m ∧ m ≤ 999) := by
    cases hv : v1 != 0
    · exact ⟨a + 1, 0, Evt.f rfl (Evt.self _), by omega, by omega, fun _ => rfl, fun h => absurd (show v1 = 0 by simpa using hv) h⟩
    · refine ⟨a + 1 + 1, 1 + v2, Evt.t rfl (Evt.bind e2 (Evt.ret ?_)), by omega, by omega, fun h => ?_, fun _ => by omega⟩
      · show (a + 1 + 1, wrap64 (1 + v2)) = _
        rw [w2]
      · rw [h] at hv; cases hv
  obtain ⟨v3, e3, p3, q3⟩ := next_ev c b 2 hc (by omega) (by omega)
  have w3 : wrap64 (1 + v3) = 1 + v3 := w_in (by omega)
  obtain ⟨n3, hn3⟩ : ∃ n : Nat, 1 + v3 = n := ⟨(1 + v3).toNat, by omega⟩
  obtain ⟨a3, rs, e4, r1, r2, r3, r4, r5⟩ := l3Draw_l0 c ⟨c, a⟩ rfl hc n3 (b + 1) [] (by omega) (by omega) (by simp; omega) (by simp)
  obtain ⟨v5, e5, p5, q5⟩ := next_ev c a3 2 hc (by omega) (by omega)
  have w5 : wrap64 (1 + v5) = 1 + v5 := w_in (by omega)
  obtain ⟨n5, hn5⟩ : ∃ n : Nat, 1 + v5 = n := ⟨(1 + v5).toNat, by omega⟩
  obtain ⟨a5, os, e6, s1, s2, s3, s4⟩ := l3Draw_l1 c ⟨c, a⟩ rfl hc n5 (a3 + 1) [] (by omega) (by omega) (by simp; omega) (by simp)
  simp only [List.length_nil, Nat.zero_add] at s3 r5
  refine ⟨⟨v1, m, rs, os⟩, a5, ?_, by omega, by omega, ⟨hv1, hm0, hm1, r5 (by omega), by show rs.length ≤ 4; omega, by show 1 ≤ os.length; omega, by show os.length ≤ 4; omega, r4, s4⟩⟩
  refine Evt.bind e1 (Evt.bindc eb (Evt.bindc (Evt.bind e3 (show Evt (fun k => spec_l3Draw.l0 ⟨c, a⟩ k (b + 1) [] (wrap64 (1 + v3))) (a3, rs) by rw [w3, hn3]; exact e4)) (Evt.bindc (Evt.bind e5 (show Evt (fun k => spec_l3Draw.l1 ⟨c, a⟩ k (a3 + 1) [] (wrap64 (1 + v5))) (a5, os) by rw [w5, hn5]; exact e6)) (Evt.self _))))
theorem okTx_sm {t : Tx} (h : TxOK t) : smTx t := sm_tx t.fKind t.fMember t.fIns t.fOuts (by have := h.ins4; omega) (by have := h.outs4; omega) (fun o ho => (h.outs o ho).2)
theorem spec_l2Digits_ev (n : Int) (h0 : 0 ≤ n) (h1 : n ≤ 1000000) : Evt (fun k => spec_l2Digits.f k n) (mkB (dgL n)) := by
  have key : ∀ u : Nat, u ≤ 1000000 → Evt (fun k => spec_l2Digits.f k (u : Int)) (mkB (Lib.decDigits u)) := by
    intro u
    induction u using Nat.strongRecOn with
    | _ u ih =>
      intro hu
      refine Evt.s ?_
      simp only [spec_l2Digits.f_s]
      by_cases h : u < 10
      · have e1 : IntKind.u8.wrap (wrap64 (48 + (u : Int))) = ((48 + u : Nat) : Int) := by rw [wrap64_in _ (by omega), u8_in _ (by omega)]; omega
        rw [e1, Lib.decDigits, dif_pos h]
        exact Evt.t (by simp; omega) (Evt.self _)
      · have e1 : IntKind.i64.wrap (Int.tdiv (u : Int) 10) = ((u / 10 : Nat) : Int) := by rw [i64_quo _ _ ⟨by omega, by omega, by omega⟩]; omega
        have e0 : Int.tmod (u : Int) 10 = ((u % 10 : Nat) : Int) := by rw [rem_in _ _ (by omega)]; omega
        have e2 : IntKind.u8.wrap (wrap64 (48 + (Int.tmod (u : Int) 10))) = ((48 + u % 10 : Nat) : Int) := by rw [e0, wrap64_in _ (by omega), u8_in _ (by omega)]; omega
        have hl' : (Lib.decDigits (u / 10)).length ≤ u / 10 + 1 := by
          have hl := dgL_len ((u / 10 : Nat) : Int) (u / 10) (Int.toNat_natCast _)
          unfold dgL at hl
          rw [Int.toNat_natCast] at hl
          exact hl
        refine Evt.f (by simp; omega) (Evt.chk rfl (Evt.chk rfl ?_))
        rw [e1, e2]
        have e3 : strOfNums ([((48 + u % 10 : Nat) : Int)] : List Int) = mkB [UInt8.ofNat (48 + u % 10)] := rfl
        refine (Evt.bind (ih (u / 10) (by omega) (by omega)) (Evt.chk ?_ (Evt.self _))).to ?_
        · refine decide_eq_true ?_
          rw [mkB_size, e3, mkB_size]; simp; omega
        · rw [e3, mkB_append, Lib.decDigits.eq_1 u, dif_neg h]
  have := key n.toNat (by omega)
  rw [Int.toNat_of_nonneg h0] at this
  exact this
theorem spec_l2Text_loop (r : Rule) (hk : ∀ x ∈ r.fKeys, 1 ≤ x ∧ x ≤ 999) (hn : r.fKeys.length ≤ 3) : ∀ (d i : Nat) (acc : List UInt8), i + d = r.fKeys.length → acc.length + 1100 * d ≤ 100000 → Evt (fun k => spec_l2Text.l0 r k (mkB acc) (i : Int)) (mkB (acc ++ Lib.joinTail [44] ((r.fKeys.drop i).map dgL)))
  | 0, i, acc, hi, hl => by
    rw [List.drop_of_length_le (by omega)]
    refine Evt.s ?_
    simp only [spec_l2Text.l0_s]
    exact Evt.f (ge_lt (by omega)) (Evt.ret (by simp [Lib.joinTail]))
  | d + 1, i, acc, hi, hl => by
    have hlt : i < r.fKeys.length := by omega
    have hx := hk _ (gt_mem hlt)
    have hd := dg3 (gt r.fKeys (i : Int)) (by omega) hx.2
    have c2 : (⟨#[44]⟩ : ByteArray) = mkB [44] := rfl
    have hg : gt r.fKeys (i : Int) = r.fKeys[i] := gt_eq (by simpa using hlt)
    refine Evt.s ?_
    simp only [spec_l2Text.l0_s, c2, mkB_append, mkB_size, List.length_append, List.length_cons, List.length_nil]
    refine Evt.t (int_lt hlt) (Evt.chk (leB_mk (by omega)) (Evt.chk (idx_ok hlt) (Evt.bind (spec_l2Digits_ev (gt r.fKeys (i : Int)) (by omega) (by omega)) ?_)))
    simp only [mkB_append, mkB_size, List.length_append, List.length_cons, List.length_nil]
    refine Evt.chk (leB_mk (by omega)) ?_
    rw [w64 hlt (by omega)]
    refine (spec_l2Text_loop r hk hn d (i + 1) _ (by omega) (by simp only [List.length_append, List.length_cons, List.length_nil]; omega)).to ?_
    have ed : r.fKeys.drop i = r.fKeys[i] :: r.fKeys.drop (i + 1) := List.drop_eq_getElem_cons hlt
    rw [ed, hg, List.map_cons]
    unfold Lib.joinTail
    rw [List.map_cons, List.flatten_cons]
    simp only [List.append_assoc, List.cons_append, List.nil_append]
def spec_l2Text_v (r : Rule) : ByteArray := mkB (ruleL r [32])
theorem spec_l2Text_ev (r : Rule) (hr0 : smRule r) (hpre : (spec_l2Fault_v r != 0) = false) : Evt (fun k => spec_l2Text.f k r) (spec_l2Text_v r) := by
  have hr := rule_ok r hpre
  have hd := dg3 r.fNeed (by have := hr.need; omega) (by have := hr.need; omega)
  have hf := dg3 r.fAfter hr.after.1 hr.after.2
  have hlt : 0 < r.fKeys.length := hr.n1
  have hx := hr.key _ (gt_mem hlt)
  have hk0 := dg3 (gt r.fKeys ((0 : Nat) : Int)) (by omega) hx.2
  have hj := join3 r.fKeys hr.n1 hr.n3 hr.key
  have c1 : (⟨#[32, 111, 102, 32]⟩ : ByteArray) = mkB [32, 111, 102, 32] := rfl
  have c2 : (⟨#[32, 97, 102, 116, 101, 114, 32]⟩ : ByteArray) = mkB [32, 97, 102, 116, 101, 114, 32] := rfl
  have hg : gt r.fKeys ((0 : Nat) : Int) = r.fKeys[0] := gt_eq (by simpa using hlt)
  have ejoin : Lib.join (r.fKeys.map dgL) [44] = dgL (gt r.fKeys ((0 : Nat) : Int)) ++ Lib.joinTail [44] ((r.fKeys.drop 1).map dgL) := by
    have : r.fKeys = r.fKeys[0] :: r.fKeys.drop 1 := by
      have := List.drop_eq_getElem_cons hlt
      simpa using this
    rw [hg]
    conv => lhs; rw [this]
    rw [List.map_cons, Lib.join_cons]
  unfold spec_l2Text.f
  simp only [c1, c2]
  refine Evt.chk (idx_ok hlt) (Evt.bind (spec_l2Digits_ev r.fNeed (by have := hr.need; omega) (by have := hr.need; omega)) ?_)
  simp only [mkB_append, mkB_size, List.length_append, List.length_cons, List.length_nil]
  refine Evt.chk (leB_mk (by omega)) (Evt.bind (spec_l2Digits_ev (gt r.fKeys ((0 : Nat) : Int)) (by omega) (by omega)) ?_)
  simp only [mkB_append, mkB_size, List.length_append, List.length_cons, List.length_nil]
  refine Evt.chk (leB_mk (by omega)) (Evt.bind (spec_l2Text_loop r hr.key hr.n3 (r.fKeys.length - 1) 1 _ (by omega) (by have := hr.n3; simp only [List.length_append, List.length_cons, List.length_nil]; omega)) ?_)
  have hl2 : (dgL (gt r.fKeys ((0 : Nat) : Int))).length + (Lib.joinTail [44] ((r.fKeys.drop 1).map dgL)).length ≤ 3100 := by
    rw [ejoin, List.length_append] at hj; exact hj
  unfold spec_l2Text_v ruleL
  rw [ejoin]
  cases ha : r.fAfter != 0
  · refine Evt.f rfl (Evt.ret ?_)
    simp [List.append_assoc]
  · simp only [mkB_append, mkB_size, List.length_append, List.length_cons, List.length_nil]
    refine Evt.t rfl (Evt.chk (leB_mk (by omega)) (Evt.bind (spec_l2Digits_ev r.fAfter hr.after.1 (by have := hr.after.2; omega)) ?_))
    simp only [mkB_append, mkB_size, List.length_append, List.length_cons, List.length_nil]
    refine Evt.chk (leB_mk (by omega)) (Evt.ret ?_)
    simp [List.append_assoc]
def swB (b : UInt8) : UInt8 := if b = 32 then 95 else b
def swG (a c b : UInt8) : UInt8 := if b = a then c else b
def swI (a c n : Int) : Int := bif n == a then c else n
theorem swap_loop (a c : Int) (xs : List Int) (hn : xs.length ≤ 1048576) : ∀ (d i : Nat) (acc : List Int), i + d = xs.length → acc = (xs.take i).map (swI a c) ++ xs.drop i → Evt (fun k => spec_l3Swap.l0 a c k acc (i : Int)) (xs.map (swI a c))
  | 0, i, acc, hi, ha => by
    have e1 : xs.drop i = [] := List.drop_of_length_le (by omega)
    have e2 : xs.take i = xs := List.take_of_length_le (by omega)
    rw [e1, e2, List.append_nil] at ha
    subst ha
    refine Evt.s ?_
    simp only [spec_l3Swap.l0_s, List.length_map]
    exact Evt.f (ge_lt (by omega)) (Evt.self _)
  | d + 1, i, acc, hi, ha => by
    have hlt : i < xs.length := by omega
    have ed : xs.drop i = xs[i] :: xs.drop (i + 1) := List.drop_eq_getElem_cons hlt
    have et : xs.take (i + 1) = xs.take i ++ [xs[i]] := List.take_succ_eq_append_getElem hlt
    have hl : acc.length = xs.length := by rw [ha, List.length_append, List.length_map, List.length_take, List.length_drop]; omega
    have hlm : ((xs.take i).map (swI a c)).length = i := by rw [List.length_map, List.length_take]; omega
    have hg : gt acc (i : Int) = xs[i] := by
      rw [gt_eq (by rw [hl]; simpa using hlt)]
      simp only [Int.toNat_natCast]
      have : acc[i]? = some xs[i] := by rw [ha, List.getElem?_append_right (by omega), hlm, Nat.sub_self, ed]; rfl
      rw [List.getElem?_eq_getElem (by omega)] at this
      exact Option.some.inj this
    refine Evt.s ?_
    simp only [spec_l3Swap.l0_s, hl, hg]
    refine Evt.t (int_lt hlt) (Evt.chk (idx_ok hlt) ?_)
    rw [w64 hlt (by omega)]
    cases hz : xs[i] == a
    · refine Evt.f rfl (swap_loop a c xs hn d (i + 1) acc (by omega) ?_)
      have e : swI a c xs[i] = xs[i] := by unfold swI; rw [hz]; rfl
      rw [ha, et, ed, List.map_append, List.map_cons, List.map_nil, e]; simp
    · refine Evt.t rfl (Evt.chk (idx_ok hlt) (swap_loop a c xs hn d (i + 1) _ (by omega) ?_))
      have e : swI a c xs[i] = c := by unfold swI; rw [hz]; rfl
      simp only [Int.toNat_natCast]
      rw [ha, et, ed, List.map_append, List.map_cons, List.map_nil, e]
      rw [List.set_append, if_neg (by omega), hlm, Nat.sub_self, List.set_cons_zero]; simp
theorem swG_I (a c b : UInt8) : UInt8.ofNat (swI (a.toNat : Int) (c.toNat : Int) (b.toNat : Int)).toNat = swG a c b := by
  unfold swI swG
  by_cases h : b = a
  · subst h
    rw [if_pos rfl, beq_self_eq_true]
    show UInt8.ofNat (c.toNat : Int).toNat = c
    rw [Int.toNat_natCast, UInt8.ofNat_toNat]
  · have : ((b.toNat : Int) == (a.toNat : Int)) = false := by
      have h2 : b.toNat ≠ a.toNat := fun e => h (UInt8.toNat_inj.1 e)
      simp; omega
    rw [this, if_neg h]
    show UInt8.ofNat (b.toNat : Int).toNat = b
    rw [Int.toNat_natCast, UInt8.ofNat_toNat]
theorem swapG_ev (a c : UInt8) (l : List UInt8) (hn : l.length ≤ 1048576) : Evt (fun k => spec_l3Swap.f k (mkB l) (a.toNat : Int) (c.toNat : Int)) (mkB (l.map (swG a c))) := by
  have hs : strNums (mkB l) = l.map fun b => (b.toNat : Int) := by simp [strNums, mkB]
  unfold spec_l3Swap.f
  rw [hs]
  refine Evt.bind (swap_loop _ _ (l.map fun b => (b.toNat : Int)) (by rw [List.length_map]; exact hn) _ 0 _ (Nat.zero_add _) (by simp)) (Evt.ret ?_)
  show mkB ((List.map (swI (a.toNat : Int) (c.toNat : Int)) (l.map fun b => (b.toNat : Int))).map fun n => UInt8.ofNat n.toNat) = _
  rw [List.map_map, List.map_map]
  congr 1
  refine List.map_congr_left fun b _ => ?_
  exact swG_I a c b
theorem swap_ev (l : List UInt8) (hn : l.length ≤ 1048576) : Evt (fun k => spec_l3Swap.f k (mkB l) 32 95) (mkB (l.map swB)) := swapG_ev 32 95 l hn
theorem sw_idG {a c : UInt8} {l : List UInt8} (h : a ∉ l) : l.map (swG a c) = l := by
  conv => rhs; rw [← List.map_id l]
  refine List.map_congr_left fun b hb => ?_
  unfold swG
  rw [if_neg (fun e : b = a => h (by rw [← e]; exact hb))]; rfl
theorem sw_id {l : List UInt8} (h : (32 : UInt8) ∉ l) : l.map swB = l := by
  conv => rhs; rw [← List.map_id l]
  refine List.map_congr_left fun b hb => ?_
  unfold swB
  rw [if_neg (fun e : b = 32 => h (by rw [← e]; exact hb))]; rfl
theorem sw_rule (r : Rule) : (ruleL r [32]).map swB = ruleL r [95] := by
  have hd : ∀ n : Int, (dgL n).map swB = dgL n := fun n => sw_id (dg_no nodg n)
  have hj : (Lib.join (r.fKeys.map dgL) [44]).map swB = Lib.join (r.fKeys.map dgL) [44] := sw_id fun h => by
    rcases mem_join h with h | ⟨p, hp, h⟩
    · exact absurd h (by decide)
    · obtain ⟨x, _, rfl⟩ := List.mem_map.1 hp
      exact dg_no nodg _ h
  have h1 : [32].map swB = [95] := rfl
  have h2 : [111, 102].map swB = [111, 102] := rfl
  have h3 : [97, 102, 116, 101, 114].map swB = [97, 102, 116, 101, 114] := rfl
  unfold ruleL
  cases r.fAfter != 0
  · simp only [cond_false, List.map_append, hd, hj, h1, h2, List.map_nil]
  · simp only [cond_true, List.map_append, hd, hj, h1, h2, h3]
theorem l3Text_ins (t : Tx) (ht : TxOK t) (i : Nat) (acc sep : List UInt8) (hlt : i < t.fIns.length) (hs : sep.length = 1) (hl : acc.length ≤ 100000) (hz : (bif ((i : Int) == 0) then some (⟨#[32]⟩ : ByteArray) else some (⟨#[43]⟩ : ByteArray)) = some (mkB sep)) {r : ByteArray}
    (h : Evt (fun k => spec_l3Text.l0 t k (mkB (acc ++ sep ++ refL t.fIns[i])) ((i + 1 : Nat) : Int)) r) : Evt (fun k => spec_l3Text.l0 t k (mkB acc) (i : Int)) r := by
  have hx := ht.ins _ (List.getElem_mem hlt)
  have hg : gt t.fIns (i : Int) = t.fIns[i] := gt_eq (by simpa using hlt)
  have hd1 := dg_l2 (n := t.fIns[i].fTx) (by omega)
  have hd2 := dg_l1 (n := t.fIns[i].fAt) (by omega)
  have c58 : (⟨#[58]⟩ : ByteArray) = mkB [58] := rfl
  refine Evt.s ?_
  simp only [spec_l3Text.l0_s, hz, Option.bind_some, mkB_size, hg, c58]
  refine Evt.t (int_lt hlt) (Evt.chk (leB_mk (by omega)) (Evt.chk (idx_ok hlt) (Evt.chk (idx_ok hlt) (Evt.bind (spec_l2Digits_ev t.fIns[i].fTx (by omega) (by omega)) ?_))))
  simp only [mkB_append, mkB_size, List.length_append, List.length_cons, List.length_nil]
  refine Evt.chk (leB_mk (by omega)) (Evt.chk (leB_mk (by omega)) (Evt.bind (spec_l2Digits_ev t.fIns[i].fAt (by omega) (by omega)) ?_))
  simp only [mkB_append, mkB_size, List.length_append, List.length_cons, List.length_nil]
  refine Evt.chk (leB_mk (by omega)) ?_
  rw [w64 hlt (by have := ht.ins4; omega)]
  have e : acc ++ sep ++ dgL t.fIns[i].fTx ++ [58] ++ dgL t.fIns[i].fAt = acc ++ sep ++ refL t.fIns[i] := by unfold refL; simp [List.append_assoc]
  rw [e]; exact h
theorem l3Text_l0 (t : Tx) (ht : TxOK t) : ∀ (d i : Nat) (acc : List UInt8), 1 ≤ i → i + d = t.fIns.length → acc.length + 10 * d ≤ 90000 → Evt (fun k => spec_l3Text.l0 t k (mkB acc) (i : Int)) (mkB (acc ++ Lib.joinTail [43] ((t.fIns.drop i).map refL)))
  | 0, i, acc, h1, hi, hl => by
    rw [List.drop_of_length_le (by omega)]
    refine Evt.s ?_
    simp only [spec_l3Text.l0_s]
    exact Evt.f (ge_lt (by omega)) (Evt.ret (by simp [Lib.joinTail]))
  | d + 1, i, acc, h1, hi, hl => by
    have hlt : i < t.fIns.length := by omega
    have hx := refL_len (ht.ins _ (List.getElem_mem hlt))
    have hz : ((i : Int) == 0) = false := by simp; omega
    refine l3Text_ins t ht i acc [43] hlt rfl (by omega) (by rw [hz]; rfl) ?_
    refine (l3Text_l0 t ht d (i + 1) _ (by omega) (by omega) (by simp only [List.length_append, List.length_cons, List.length_nil]; omega)).to ?_
    have ed : t.fIns.drop i = t.fIns[i] :: t.fIns.drop (i + 1) := List.drop_eq_getElem_cons hlt
    rw [ed, List.map_cons]
    unfold Lib.joinTail
    rw [List.map_cons, List.flatten_cons]
    simp only [List.append_assoc, List.cons_append, List.nil_append]
theorem l3Text_l1 (t : Tx) (h_t : smTx t) (ht : TxOK t) : ∀ (d i : Nat) (acc : List UInt8), i + d = t.fOuts.length → acc.length + 100 * d ≤ 90000 → Evt (fun k => spec_l3Text.l1 t k (mkB acc) (i : Int)) (mkB (acc ++ Lib.joinTail [32] ((t.fOuts.drop i).map outL)))
  | 0, i, acc, hi, hl => by
    rw [List.drop_of_length_le (by omega)]
    refine Evt.s ?_
    simp only [spec_l3Text.l1_s]
    exact Evt.f (ge_lt (by omega)) (Evt.ret (by simp [Lib.joinTail]))
  | d + 1, i, acc, hi, hl => by
    have hlt : i < t.fOuts.length := by omega
    have hx := ht.outs _ (List.getElem_mem hlt)
    have hol := outL_len hx
    have hg : gt t.fOuts (i : Int) = t.fOuts[i] := gt_eq (by simpa using hlt)
    have hr := rule_ok t.fOuts[i].fRule (by rw [hx.2]; rfl)
    have hd1 := dg_l7 (n := t.fOuts[i].fValue) (by omega)
    have hrl := ruleL_len t.fOuts[i].fRule 32 hr
    have c1 : (⟨#[32]⟩ : ByteArray) = mkB [32] := rfl
    have c2 : (⟨#[61]⟩ : ByteArray) = mkB [61] := rfl
    have hsw := swap_ev (ruleL t.fOuts[i].fRule [32]) (by omega)
    rw [sw_rule] at hsw
    have hrl2 := ruleL_len t.fOuts[i].fRule 95 hr
    refine Evt.s ?_
    simp only [spec_l3Text.l1_s, hg, c1, c2, mkB_append, mkB_size, List.length_append, List.length_cons, List.length_nil]
    refine Evt.t (int_lt hlt) (Evt.chk (leB_mk (by omega)) (Evt.chk (idx_ok hlt) (Evt.chk (idx_ok hlt) (Evt.bind (spec_l2Digits_ev t.fOuts[i].fValue (by omega) (by omega)) ?_))))
    simp only [mkB_append, mkB_size, List.length_append, List.length_cons, List.length_nil]
    refine Evt.chk (leB_mk (by omega)) (Evt.chk (leB_mk (by omega)) (Evt.bind (spec_l2Text_ev t.fOuts[i].fRule (h_t.2.2.2.2 _ (List.getElem_mem hlt)).2 (by rw [hx.2]; rfl)) (Evt.bind hsw ?_)))
    simp only [mkB_append, mkB_size, List.length_append, List.length_cons, List.length_nil]
    refine Evt.chk (leB_mk (by omega)) ?_
    rw [w64 hlt (by have := ht.outs4; omega)]
    refine (l3Text_l1 t h_t ht d (i + 1) _ (by omega) (by simp only [List.length_append, List.length_cons, List.length_nil]; omega)).to ?_
    have ed : t.fOuts.drop i = t.fOuts[i] :: t.fOuts.drop (i + 1) := List.drop_eq_getElem_cons hlt
    rw [ed, List.map_cons]
    unfold Lib.joinTail
    rw [List.map_cons, List.flatten_cons]
    unfold outL
    simp only [List.append_assoc, List.cons_append, List.nil_append]
def spec_l3Text_v (t : Tx) : ByteArray := mkB (txL t)
theorem spec_l3Text_ok (t : Tx) (h_t : smTx t) (ht : TxOK t) : Evt (fun k => spec_l3Text.f k t) (spec_l3Text_v t) := by
  have c0 : (⟨#[112, 97, 121]⟩ : ByteArray) = mkB [112, 97, 121] := rfl
  have c1 : (⟨#[106, 111, 105, 110, 32]⟩ : ByteArray) = mkB [106, 111, 105, 110, 32] := rfl
  have c2 : (⟨#[108, 101, 97, 118, 101, 32]⟩ : ByteArray) = mkB [108, 101, 97, 118, 101, 32] := rfl
  have hlt : 0 < t.fIns.length := ht.ins1
  have hins4 := ht.ins4
  have houts4 := ht.outs4
  have hx := refL_len (ht.ins _ (List.getElem_mem hlt))
  have hk := ht.kind
  -- what stands ahead
  have key : ∃ a : List UInt8, a.length ≤ 20 ∧ a = (bif t.fKind != 0 then kindW t.fKind ++ [32] ++ dgL t.fMember else kindW t.fKind) ∧ Evt (fun k => (bif (t.fKind != 0) then ((spec_l2Digits.f k t.fMember).bind fun t1698 => (Zk.chk (leB ((gt ([mkB [112, 97, 121], mkB [106, 111, 105, 110, 32], mkB [108, 101, 97, 118, 101, 32]] : List ByteArray) t.fKind).size + t1698.size) 9223372036854775807) (some ((gt ([mkB [112, 97, 121], mkB [106, 111, 105, 110, 32], mkB [108, 101, 97, 118, 101, 32]] : List ByteArray) t.fKind) ++ t1698)))) else some (gt ([mkB [112, 97, 121], mkB [106, 111, 105, 110, 32], mkB [108, 101, 97, 118, 101, 32]] : List ByteArray) t.fKind))) (mkB a) := by
    have h3 : t.fKind = 0 ∨ t.fKind = 1 ∨ t.fKind = 2 := by omega
    rcases h3 with h | h | h
    · refine ⟨[112, 97, 121], by simp, by rw [h]; rfl, ?_⟩
      rw [h]
      exact Evt.f rfl (Evt.self _)
    · have hm := ht.mem (by omega)
      have hd := dg_l3 (n := t.fMember) (by omega)
      refine ⟨[106, 111, 105, 110, 32] ++ dgL t.fMember, by simp; omega, by rw [h]; simp [kindW], ?_⟩
      rw [h]
      refine Evt.t rfl (Evt.bind (spec_l2Digits_ev t.fMember (by omega) (by omega)) ?_)
      show Evt (fun k => Zk.chk (leB ((mkB [106, 111, 105, 110, 32]).size + (mkB (dgL t.fMember)).size) 9223372036854775807) (some (mkB [106, 111, 105, 110, 32] ++ mkB (dgL t.fMember)))) _
      simp only [mkB_append, mkB_size]
      exact Evt.chk (leB_mk (by simp; omega)) (Evt.self _)
    · have hm := ht.mem (by omega)
      have hd := dg_l3 (n := t.fMember) (by omega)
      refine ⟨[108, 101, 97, 118, 101, 32] ++ dgL t.fMember, by simp; omega, by rw [h]; simp [kindW], ?_⟩
      rw [h]
      refine Evt.t rfl (Evt.bind (spec_l2Digits_ev t.fMember (by omega) (by omega)) ?_)
      show Evt (fun k => Zk.chk (leB ((mkB [108, 101, 97, 118, 101, 32]).size + (mkB (dgL t.fMember)).size) 9223372036854775807) (some (mkB [108, 101, 97, 118, 101, 32] ++ mkB (dgL t.fMember)))) _
      simp only [mkB_append, mkB_size]
      exact Evt.chk (leB_mk (by simp; omega)) (Evt.self _)
  obtain ⟨a, hal, hae, he⟩ := key
  have hj := ins_len ht
  have ed : t.fIns = t.fIns[0] :: t.fIns.drop 1 := by simpa using List.drop_eq_getElem_cons hlt
  have ej : Lib.join (t.fIns.map refL) [43] = refL t.fIns[0] ++ Lib.joinTail [43] ((t.fIns.drop 1).map refL) := by
    conv => lhs; rw [ed]
    rw [List.map_cons, Lib.join_cons]
  have e0 := l3Text_ins t ht 0 a [32] hlt rfl (by omega) rfl (l3Text_l0 t ht (t.fIns.length - 1) 1 _ (by omega) (by omega) (by simp only [List.length_append, List.length_cons, List.length_nil]; omega))
  rw [List.append_assoc, ← ej] at e0
  have e1 := l3Text_l1 t h_t ht t.fOuts.length 0 (a ++ [32] ++ Lib.join (t.fIns.map refL) [43]) (by omega) (by simp only [List.length_append, List.length_cons, List.length_nil]; omega)
  unfold spec_l3Text.f
  simp only [c0, c1, c2]
  have hik : idxOk t.fKind ([mkB [112, 97, 121], mkB [106, 111, 105, 110, 32], mkB [108, 101, 97, 118, 101, 32]] : List ByteArray).length = true := by unfold idxOk; simp; omega
  refine Evt.chk hik (Evt.bind he (Evt.bind e0 (Evt.bind e1 (Evt.ret ?_))))
  unfold spec_l3Text_v
  rw [txL_eq, ← hae, List.drop_zero]
theorem spec_l3Text_ev (t : Tx) (h_t : smTx t) (hpre : (spec_l3Fault_v t != 0) = false) : Evt (fun k => spec_l3Text.f k t) (spec_l3Text_v t) := spec_l3Text_ok t h_t (tx_ok t hpre)
theorem sn_mk (l : List UInt8) : strNums (mkB l) = l.map fun b => (b.toNat : Int) := by simp [strNums, mkB]
theorem son_sz (xs : List Int) : (strOfNums xs).size = xs.length := by simp [strOfNums, ByteArray.size]
theorem DrawParseTx_ev (c : List Int) (hc : codeOK c) : ∃ t : ByteArray, Evt (fun k => spec_DrawParseTx.f k c) t ∧ t.size ≤ 1000 := by
  obtain ⟨b, a1, e1, _, h1, hb⟩ := l3Draw_ev c 0 hc (by omega) (by omega)
  obtain ⟨v, e2, v0, v1⟩ := next_ev c a1 5 hc (by omega) (by omega)
  have et : Evt (fun k => spec_l3Text.f k b) (mkB (txL b)) := spec_l3Text_ok b (okTx_sm hb) hb
  have hl := txL_len hb
  have hp : 1 ≤ (txL b).length := by rw [txL_eq]; simp; omega
  have hn : (strNums (mkB (txL b))).length = (txL b).length := by rw [sn_mk, List.length_map]
  obtain ⟨w, e3, w0, w1⟩ := next_ev c (a1 + 1) ((strNums (mkB (txL b))).length : Int) hc (by omega) (by omega)
  obtain ⟨u, e4, _⟩ := pick_ev c (a1 + 1 + 1) [48, 32, 57, 95, 58] hc (by omega) (by simp)
  by_cases h0 : v = 0
  · refine ⟨_, Evt.bind (source_ev c) (Evt.bind e1 (Evt.bind et (Evt.bind e2 (Evt.t (by rw [h0]; rfl) (Evt.bind e3 (Evt.bind e4 (Evt.chk (by unfold idxOk; simp; omega) (Evt.self _)))))))), ?_⟩
    rw [son_sz, List.length_set]; omega
  · have hz : (v == 0) = false := by simpa using h0
    by_cases h1 : v = 1
    · refine ⟨_, Evt.bind (source_ev c) (Evt.bind e1 (Evt.bind et (Evt.bind e2 (Evt.f hz (Evt.t (by rw [h1]; rfl) (Evt.bind e3 (Evt.chk (by unfold cutOk; simp; omega) (Evt.self _)))))))), ?_⟩
      rw [son_sz, List.length_take]; omega
    · refine ⟨_, Evt.bind (source_ev c) (Evt.bind e1 (Evt.bind et (Evt.bind e2 (Evt.f hz (Evt.f (by simpa using h1) (Evt.self _)))))), ?_⟩
      rw [son_sz]; omega
theorem spec_l2Cut_loop (l : List UInt8) (c : UInt8) (hn : l.length ≤ 1048576) : ∀ (d i fr : Nat) (out : List ByteArray), i + d = l.length → fr ≤ i → out.length ≤ i → Evt (fun k => spec_l2Cut.l0 (mkB l) (c.toNat : Int) k out (fr : Int) (i : Int)) (out ++ (cutA c ((l.take i).drop fr) (l.drop i)).map mkB)
  | 0, i, fr, out, hi, hf, ho => by
    have hil : i = l.length := by omega
    refine Evt.s ?_
    simp only [spec_l2Cut.l0_s, mkB_size, mk_extract]
    have e1 : ((i : Int) == (l.length : Int)) = true := by simp; omega
    refine Evt.t (by simp; omega) (Evt.chk (by simp [e1]) (Evt.t (by simp [e1]) (Evt.chk (cut_ok (by omega)) (Evt.chk (by simp only [Int.toNat_natCast]; exact cut_ok hf) (Evt.chk (leB_mk2 (by simp; omega)) (Evt.s ?_))))))
    have e2 : wrap64 ((i : Int) + 1) = ((i + 1 : Nat) : Int) := by rw [wrap64_in _ (by omega)]; omega
    simp only [spec_l2Cut.l0_s, mkB_size, e2]
    refine Evt.f (by simp; omega) (Evt.ret ?_)
    rw [List.drop_of_length_le (by omega : l.length ≤ i), cutA]
    simp
  | d + 1, i, fr, out, hi, hf, ho => by
    have hlt : i < l.length := by omega
    refine Evt.s ?_
    simp only [spec_l2Cut.l0_s, mkB_size, mk_extract]
    have e1 : ((i : Int) == (l.length : Int)) = false := by simp; omega
    have e2 : wrap64 ((i : Int) + 1) = ((i + 1 : Nat) : Int) := by rw [wrap64_in _ (by omega)]; omega
    have ed : l.drop i = l[i] :: l.drop (i + 1) := List.drop_eq_getElem_cons hlt
    refine Evt.t (by simp; omega) (Evt.chk (or_ok (idx_ok hlt)) ?_)
    rw [bt_mk l i hlt, e1, e2, Bool.false_or, ed]
    by_cases hc : l[i] = c
    · refine Evt.t (by rw [hc]; simp) (Evt.chk (cut_ok (by omega)) (Evt.chk (by simp only [Int.toNat_natCast]; exact cut_ok hf) (Evt.chk (leB_mk2 (by simp; omega)) ?_)))
      refine (spec_l2Cut_loop l c hn d (i + 1) (i + 1) _ (by omega) (Nat.le_refl _) (by simp; omega)).to ?_
      rw [cutA, if_pos hc]
      simp
    · refine Evt.f (by simpa using fun e => hc (UInt8.toNat_inj.1 (by omega))) ?_
      refine (spec_l2Cut_loop l c hn d (i + 1) fr out (by omega) (by omega) (by omega)).to ?_
      rw [cutA, if_neg hc]
      have e3 : (l.take (i + 1)).drop fr = (l.take i).drop fr ++ [l[i]] := by
        rw [List.take_succ_eq_append_getElem hlt, List.drop_append_of_le_length (by rw [List.length_take]; omega)]
      rw [e3]
theorem spec_l2Cut_ev (l : List UInt8) (c : UInt8) (hn : l.length ≤ 1048576) : Evt (fun k => spec_l2Cut.f k (mkB l) (c.toNat : Int)) ((cutA c [] l).map mkB) := by
  refine Evt.bind (spec_l2Cut_loop l c hn l.length 0 0 [] (by omega) (Nat.le_refl _) (Nat.le_refl _)) (Evt.ret ?_)
  simp
theorem l2num_loop (w : List UInt8) (hw : w.length ≤ 7) : ∀ d i, i + d = w.length → (∀ b ∈ w.take i, isDg b) → Evt (fun k => spec_l2Number.l0 (mkB w) k (valL (w.take i) : Int) (i : Int)) (if ∀ b ∈ w.drop i, isDg b then .inr (valL w : Int) else .inl (0, false))
  | 0, i, hi, hp => by
    refine Evt.s ?_
    simp only [spec_l2Number.l0_s, mkB_size]
    have e : w.drop i = [] := List.drop_of_length_le (by omega)
    have e2 : w.take i = w := List.take_of_length_le (by omega)
    rw [e, e2]
    exact Evt.f (by simp; omega) (Evt.ret (by simp))
  | d + 1, i, hi, hp => by
    have hlt : i < w.length := by omega
    have hv := valL_lt (w.take i) hp
    have hl : (w.take i).length ≤ 6 := by rw [List.length_take]; omega
    have h3 : 10 ^ (w.take i).length ≤ 10 ^ 6 := Nat.pow_le_pow_right (by omega) hl
    have ed : w.drop i = w[i] :: w.drop (i + 1) := List.drop_eq_getElem_cons hlt
    have et : w.take (i + 1) = w.take i ++ [w[i]] := List.take_succ_eq_append_getElem hlt
    refine Evt.s ?_
    simp only [spec_l2Number.l0_s, mkB_size, bt_mk w i hlt]
    refine Evt.t (int_lt hlt) (Evt.chk (idx_ok hlt) (Evt.chk (or_ok (idx_ok hlt)) ?_))
    by_cases hd : isDg w[i]
    · have h1 := hd.1
      have h2 := hd.2
      refine Evt.f (by simp; omega) (Evt.chk (idx_ok hlt) ?_)
      have hv' : valL (w.take i) < 1000000 := Nat.lt_of_lt_of_le hv (by simpa using h3)
      have a1 : IntKind.u8.wrap ((w[i].toNat : Int) - 48) = (w[i].toNat : Int) - 48 := u8_in _ (by omega)
      have a2 : wrap64 ((w[i].toNat : Int) - 48) = (w[i].toNat : Int) - 48 := wrap64_in _ (by omega)
      have a3 : wrap64 ((valL (w.take i) : Int) * 10) = (valL (w.take i) : Int) * 10 := wrap64_in _ (by omega)
      have a4 : wrap64 ((valL (w.take i) : Int) * 10 + ((w[i].toNat : Int) - 48)) = (valL (w.take i) : Int) * 10 + ((w[i].toNat : Int) - 48) := wrap64_in _ (by omega)
      have e1 : wrap64 ((wrap64 ((valL (w.take i) : Int) * 10)) + (wrap64 (IntKind.u8.wrap ((w[i].toNat : Int) - 48)))) = (valL (w.take (i + 1)) : Int) := by
        rw [a1, a2, a3, a4, et, valL_snoc]; omega
      rw [e1, w64 hlt (by omega)]
      refine (l2num_loop w hw d (i + 1) (by omega) (fun b hb => ?_)).to ?_
      · rw [et] at hb
        rcases List.mem_append.1 hb with hb | hb
        · exact hp b hb
        · simp only [List.mem_cons, List.not_mem_nil, or_false] at hb; rw [hb]; exact hd
      · rw [ed]
        by_cases hq : ∀ b ∈ w.drop (i + 1), isDg b
        · rw [if_pos hq, if_pos (fun b hb => by
            rcases List.mem_cons.1 hb with hb | hb
            · rw [hb]; exact hd
            · exact hq b hb)]
        · rw [if_neg hq, if_neg (fun hr => hq fun b hb => hr b (List.mem_cons_of_mem _ hb))]
    · refine Evt.t ?_ (Evt.ret ?_)
      · have hd' : ¬ (48 ≤ w[i].toNat ∧ w[i].toNat ≤ 57) := hd
        rw [Bool.or_eq_true, decide_eq_true_eq, decide_eq_true_eq]; omega
      · rw [ed, if_neg (fun h => hd (h _ (List.mem_cons_self ..)))]
theorem l2num (w : List UInt8) (n : Nat) (hn : n ≤ 7) : ∃ r, Evt (fun k => spec_l2Number.f k (mkB w) (n : Int)) r ∧ (r.2 = true → 0 ≤ r.1 ∧ dgL r.1 = w ∧ w.length ≤ n) := by
  unfold spec_l2Number.f
  simp only [mkB_size]
  by_cases h1 : w.length < 1 ∨ n < w.length
  · refine ⟨(0, false), Evt.chk ?_ (Evt.t ?_ (Evt.self _)), fun h => by cases h⟩
    · refine or1 fun hz => idx_ok (i := 0) ?_
      simp only [Bool.and_eq_true, decide_eq_true_eq] at hz; omega
    · rcases h1 with h1 | h1 <;> simp <;> omega
  · have hb0 : bt (mkB w) 0 = (w[0]'(by omega)).toNat := bt_mk w 0 (by omega)
    have hc1 : decide ((w.length : Int) < 1) = false := by simp; omega
    have hc2 : decide ((n : Int) < (w.length : Int)) = false := by simp; omega
    rw [hc1, hc2, hb0]
    by_cases h2 : 1 < w.length ∧ w[0]'(by omega) = 48
    · refine ⟨(0, false), Evt.chk (or_ok (idx_ok (i := 0) (by omega))) (Evt.t ?_ (Evt.self _)), fun h => by cases h⟩
      rw [h2.2]; simp; omega
    · refine ⟨if ∀ b ∈ w, isDg b then ((valL w : Int), true) else (0, false), Evt.chk (or_ok (idx_ok (i := 0) (by omega))) (Evt.f ?_ (Evt.bind (l2num_loop w (by omega) w.length 0 (by omega) (by simp)) ?_)), fun h => ?_⟩
      · by_cases h3 : 1 < w.length
        · have h4 : w[0]'(by omega) ≠ 48 := fun e => h2 ⟨h3, e⟩
          have h5 : ((w[0]'(by omega)).toNat : Int) ≠ 48 := fun e => h4 (UInt8.toNat_inj.1 (by have : (48 : UInt8).toNat = 48 := rfl; omega))
          simp [h5]
        · have : decide (1 < (w.length : Int)) = false := by simp; omega
          rw [this]; rfl
      · rw [List.drop_zero]
        by_cases hd : ∀ b ∈ w, isDg b
        · rw [if_pos hd, if_pos hd]; exact Evt.self _
        · rw [if_neg hd, if_neg hd]; exact Evt.self _
      · by_cases hd : ∀ b ∈ w, isDg b
        · rw [if_pos hd]
          refine ⟨by simp, ?_, by omega⟩
          have := dec_val w.length w rfl (by omega) hd (fun h3 => ?_)
          · simpa [dgL] using this
          · intro e
            refine h2 ⟨h3, ?_⟩
            cases w with
            | nil => simp at h3
            | cons a r => simpa using e
        · rw [if_neg hd] at h; cases h
theorem l2num_dg (x : Int) (n : Nat) (h0 : 0 ≤ x) (hn : n ≤ 7) (hl : (dgL x).length ≤ n) : Evt (fun k => spec_l2Number.f k (mkB (dgL x)) (n : Int)) (x, true) := by
  obtain ⟨i1, i2, i3, i4, i5⟩ := dec_is x.toNat
  unfold spec_l2Number.f
  simp only [mkB_size]
  have hp : 0 < (dgL x).length := i3
  have hb0 : bt (mkB (dgL x)) 0 = ((dgL x)[0]).toNat := bt_mk _ 0 hp
  have hc1 : decide (((dgL x).length : Int) < 1) = false := by simp; omega
  have hc2 : decide ((n : Int) < ((dgL x).length : Int)) = false := by simp; omega
  rw [hc1, hc2, hb0]
  refine Evt.chk (or_ok (idx_ok (i := 0) hp)) (Evt.f ?_ (Evt.bind (l2num_loop (dgL x) (by omega) (dgL x).length 0 (by omega) (by simp)) ?_))
  · by_cases h3 : 1 < (dgL x).length
    · have h4 : (dgL x)[0] ≠ 48 := fun e => i4 h3 (by rw [← e]; exact List.head?_eq_getElem? ▸ List.getElem?_eq_getElem hp)
      have h5 : (((dgL x)[0]).toNat : Int) ≠ 48 := fun e => h4 (UInt8.toNat_inj.1 (by have : (48 : UInt8).toNat = 48 := rfl; omega))
      simp [h5]
    · have : decide (1 < ((dgL x).length : Int)) = false := by simp; omega
      rw [this]; rfl
  · rw [List.drop_zero, if_pos (show ∀ b ∈ dgL x, isDg b from i1)]
    refine Evt.ret ?_
    have : (valL (dgL x) : Int) = x := by
      have e : valL (dgL x) = x.toNat := i2
      rw [e]; omega
    rw [this]
theorem l2num_all (n : Nat) (hn : n ≤ 7) : ∀ ps : List (List UInt8), ∃ rs : List (Int × Bool), ∃ hl : rs.length = ps.length, ∀ i (h : i < ps.length), Evt (fun k => spec_l2Number.f k (mkB ps[i]) (n : Int)) (rs[i]'(by omega)) ∧ ((rs[i]'(by omega)).2 = true → 0 ≤ (rs[i]'(by omega)).1 ∧ dgL (rs[i]'(by omega)).1 = ps[i])
  | [] => ⟨[], rfl, fun i h => by simp at h⟩
  | p :: ps => by
    obtain ⟨r, hr, hq⟩ := l2num p n hn
    obtain ⟨rs, hl, he⟩ := l2num_all n hn ps
    refine ⟨r :: rs, by simp [hl], fun i h => ?_⟩
    cases i with
    | zero => exact ⟨hr, fun e => ⟨(hq e).1, (hq e).2.1⟩⟩
    | succ i => exact he i (by simpa using h)
theorem all_map_dg : ∀ (ps : List (List UInt8)) (rs : List (Int × Bool)) (hl : rs.length = ps.length), (∀ i (h : i < ps.length), (rs[i]'(by omega)).2 = true → 0 ≤ (rs[i]'(by omega)).1 ∧ dgL (rs[i]'(by omega)).1 = ps[i]) → rs.all (·.2) = true → (rs.map (·.1)).map dgL = ps
  | [], [], _, _, _ => rfl
  | p :: ps, r :: rs, hl, h, ha => by
    rw [List.all_cons, Bool.and_eq_true] at ha
    have h0 := (h 0 (by simp) ha.1).2
    have ih := all_map_dg ps rs (by simpa using hl) (fun i hi => h (i + 1) (by simpa using hi)) ha.2
    simp only [List.getElem_cons_zero] at h0
    rw [List.map_cons, List.map_cons, ih, h0]
  | [], _ :: _, hl, _, _ => by simp at hl
  | _ :: _, [], hl, _, _ => by simp at hl
theorem l3Ins_loop (ps : List (List UInt8)) (hn : ps.length ≤ 1048577) (hp : ∀ p ∈ ps, p.length ≤ 1048576) : ∀ (d i : Nat) (acc : List Ref), i + d = ps.length → acc.length = i → ∃ o, Evt (fun k => spec_l3Ins.l0 (ps.map mkB) k acc (i : Int)) o ∧ (o = .inl ([], false) ∨ ∃ rs, o = .inr rs ∧ rs.length = ps.length)
  | 0, i, acc, hi, ha => by
    refine ⟨.inr acc, Evt.s ?_, .inr ⟨acc, rfl, by omega⟩⟩
    simp only [spec_l3Ins.l0_s, List.length_map]
    exact Evt.f (ge_lt (by omega)) (Evt.self _)
  | d + 1, i, acc, hi, ha => by
    have hlt : i < ps.length := by omega
    have hg : gt (ps.map mkB) (i : Int) = mkB ps[i] := by rw [gt_eq (by simpa using hlt)]; simp
    have hs := spec_l2Cut_ev ps[i] 58 (hp _ (List.getElem_mem hlt))
    by_cases h2 : (cutA 58 [] ps[i]).length = 2
    · obtain ⟨a, b, hw⟩ := two h2
      rw [hw] at hs
      obtain ⟨r1, e1, _⟩ := l2num a 2 (by omega)
      obtain ⟨r2, e2, _⟩ := l2num b 1 (by omega)
      cases hb : (!r1.2) || (!r2.2)
      · obtain ⟨o, ho, q⟩ := l3Ins_loop ps hn hp d (i + 1) (acc ++ [⟨r1.1, r2.1⟩]) (by omega) (by simp [ha])
        refine ⟨o, Evt.s ?_, q⟩
        simp only [spec_l3Ins.l0_s, List.length_map, hg]
        refine Evt.t (int_lt hlt) (Evt.chk (idx_ok hlt) (Evt.bind hs (Evt.f rfl (Evt.chk rfl (Evt.bind e1 (Evt.chk rfl (Evt.bind e2 (Evt.f hb (Evt.chk (leB_mk2 (by simp; omega)) ?_)))))))))
        rw [w64 hlt (by omega)]; exact ho
      · refine ⟨.inl ([], false), Evt.s ?_, .inl rfl⟩
        simp only [spec_l3Ins.l0_s, List.length_map, hg]
        exact Evt.t (int_lt hlt) (Evt.chk (idx_ok hlt) (Evt.bind hs (Evt.f rfl (Evt.chk rfl (Evt.bind e1 (Evt.chk rfl (Evt.bind e2 (Evt.t hb (Evt.self _)))))))))
    · refine ⟨.inl ([], false), Evt.s ?_, .inl rfl⟩
      simp only [spec_l3Ins.l0_s, List.length_map, hg]
      refine Evt.t (int_lt hlt) (Evt.chk (idx_ok hlt) (Evt.bind hs (Evt.t ?_ (Evt.self _))))
      rw [List.length_map, bne_iff_ne]; omega
theorem l3Ins_ev (w : List UInt8) (hw : w.length ≤ 1048575) : ∃ r, Evt (fun k => spec_l3Ins.f k (mkB w)) r ∧ r.1.length ≤ 1048576 := by
  have hc := cutA_len 43 w []
  obtain ⟨o, ho, q⟩ := l3Ins_loop (cutA 43 [] w) (by omega) (fun p hp => by have := cutA_le 43 w [] p hp; simp at this; omega) (cutA 43 [] w).length 0 [] (by omega) rfl
  have hs := spec_l2Cut_ev w 43 (by omega)
  rcases q with rfl | ⟨rs, rfl, hl⟩
  · exact ⟨([], false), Evt.bind hs (Evt.bind ho (Evt.self _)), by simp⟩
  · exact ⟨(rs, true), Evt.bind hs (Evt.bind ho (Evt.self _)), by show rs.length ≤ _; omega⟩
theorem l3Ins_of_loop (rs : List Ref) (hn : rs.length ≤ 4) (hr : ∀ r ∈ rs, (1 ≤ r.fTx ∧ r.fTx ≤ 60) ∧ 0 ≤ r.fAt ∧ r.fAt ≤ 3) : ∀ (d i : Nat), i + d = rs.length → Evt (fun k => spec_l3Ins.l0 ((rs.map refL).map mkB) k (rs.take i) (i : Int)) (.inr rs)
  | 0, i, hi => by
    refine Evt.s ?_
    simp only [spec_l3Ins.l0_s, List.length_map]
    rw [List.take_of_length_le (by omega)]
    exact Evt.f (ge_lt (by omega)) (Evt.self _)
  | d + 1, i, hi => by
    have hlt : i < rs.length := by omega
    have hx := hr _ (List.getElem_mem hlt)
    have hg : gt ((rs.map refL).map mkB) (i : Int) = mkB (refL rs[i]) := by rw [gt_eq (by simpa using hlt)]; simp
    have hs := spec_l2Cut_ev (refL rs[i]) 58 (by have := refL_len hx; omega)
    rw [cut_ref] at hs
    have e1 := l2num_dg rs[i].fTx 2 (by omega) (by omega) (dg_l2 (by omega))
    have e2 := l2num_dg rs[i].fAt 1 (by omega) (by omega) (dg_l1 (by omega))
    refine Evt.s ?_
    simp only [spec_l3Ins.l0_s, List.length_map, hg]
    refine Evt.t (int_lt hlt) (Evt.chk (idx_ok hlt) (Evt.bind hs (Evt.f rfl (Evt.chk rfl (Evt.bind e1 (Evt.chk rfl (Evt.bind e2 (Evt.f rfl (Evt.chk (leB_mk2 (by simp; omega)) ?_)))))))))
    rw [w64 hlt (by omega)]
    have et : rs.take i ++ [rs[i]] = rs.take (i + 1) := (List.take_succ_eq_append_getElem hlt).symm
    have := l3Ins_of_loop rs hn hr d (i + 1) (by omega)
    rw [← et] at this
    exact this
theorem l3Ins_of (rs : List Ref) (h1 : 1 ≤ rs.length) (hn : rs.length ≤ 4) (hr : ∀ r ∈ rs, (1 ≤ r.fTx ∧ r.fTx ≤ 60) ∧ 0 ≤ r.fAt ∧ r.fAt ≤ 3) (hl : (Lib.join (rs.map refL) [43]).length ≤ 20) : Evt (fun k => spec_l3Ins.f k (mkB (Lib.join (rs.map refL) [43]))) (rs, true) := by
  have hs := spec_l2Cut_ev (Lib.join (rs.map refL) [43]) 43 (by omega)
  rw [cut_refs rs (by intro e; rw [e] at h1; simp at h1)] at hs
  exact Evt.bind hs (Evt.bind (l3Ins_of_loop rs hn hr rs.length 0 (by omega)) (Evt.self _))
theorem l2loop (ps : List (List UInt8)) (rs : List (Int × Bool)) (hn : ps.length ≤ 1048577) (hl : rs.length = ps.length) (he : ∀ i (h : i < ps.length), Evt (fun k => spec_l2Number.f k (mkB ps[i]) ((3 : Nat) : Int)) (rs[i]'(by omega))) (ok : Bool) : ∀ (d i : Nat), i + d = ps.length → Evt (fun k => spec_l2Parse.l0 (ps.map mkB) k (ok && (rs.take i).all (·.2)) ((rs.take i).map (·.1)) (i : Int)) (ok && rs.all (·.2), rs.map (·.1))
  | 0, i, hi => by
    refine Evt.s ?_
    simp only [spec_l2Parse.l0_s, List.length_map]
    have e : decide ((i : Int) < (ps.length : Int)) = false := ge_lt (by omega)
    rw [e]
    refine Evt.f rfl (Evt.ret ?_)
    rw [List.take_of_length_le (by omega)]
  | d + 1, i, hi => by
    have hlt : i < ps.length := by omega
    have hg : gt (ps.map mkB) (i : Int) = mkB ps[i] := by rw [gt_eq (by simpa using hlt)]; simp
    refine Evt.s ?_
    simp only [spec_l2Parse.l0_s, List.length_map, hg]
    refine Evt.t (int_lt hlt) (Evt.chk (idx_ok hlt) (Evt.bind (he i hlt) (Evt.chk (leB_mk2 (by simp; omega)) ?_)))
    rw [w64 hlt (by omega)]
    have et : rs.take (i + 1) = rs.take i ++ [rs[i]'(by omega)] := List.take_succ_eq_append_getElem (by omega)
    have e1 : (rs.take i).map (·.1) ++ [(rs[i]'(by omega)).1] = (rs.take (i + 1)).map (·.1) := by rw [et, List.map_append]; rfl
    have e2 : (ok && (rs.take i).all (·.2) && (rs[i]'(by omega)).2) = (ok && (rs.take (i + 1)).all (·.2)) := by rw [et, List.all_append, List.all_cons, List.all_nil, Bool.and_true, Bool.and_assoc]
    rw [e1, e2]
    exact l2loop ps rs hn hl he ok d (i + 1) (by omega)
theorem l2_end (xs : List Int) (n a : Int) (ok : Bool) (hx : xs.length ≤ 1048576) : ∃ r : Rule × Bool, Evt (fun k => ((bif ok then spec_l2Fault.f k (⟨xs, n, a⟩ : Rule) else some default).bind fun t664 => some ((⟨xs, n, a⟩ : Rule), (ok && (t664 == 0))))) r ∧ r.1 = ⟨xs, n, a⟩ ∧ (r.2 = true → ok = true ∧ spec_l2Fault_v ⟨xs, n, a⟩ = 0) ∧ (ok = true → spec_l2Fault_v ⟨xs, n, a⟩ = 0 → r.2 = true) := by
  have hsm : smRule ⟨xs, n, a⟩ := ⟨⟨hx, fun _ _ => trivial⟩, trivial, trivial⟩
  cases ok
  · exact ⟨(⟨xs, n, a⟩, false), Evt.bind (Evt.f rfl (Evt.self _)) (Evt.self _), rfl, (fun h => by cases h), (fun h => by cases h)⟩
  · refine ⟨(⟨xs, n, a⟩, (true && (spec_l2Fault_v ⟨xs, n, a⟩ == 0))), Evt.bind (Evt.t rfl (spec_l2Fault_ev _ hsm)) (Evt.self _), rfl, fun h => ⟨rfl, ?_⟩, fun _ h => ?_⟩
    · simpa using h
    · show (true && (spec_l2Fault_v ⟨xs, n, a⟩ == 0)) = true
      rw [h]; rfl
theorem l2keys_ev (w : List UInt8) (ok : Bool) (hw : w.length ≤ 1048575) : ∃ xs ok', xs.length ≤ 1048576 ∧ Evt (fun k => spec_l2Parse.l0 ((cutA 44 [] w).map mkB) k ok [] 0) (ok', xs) ∧ (ok' = true → ok = true ∧ w = Lib.join (xs.map dgL) [44]) := by
  have hk := cutA_len 44 w []
  obtain ⟨rs, hrl, he⟩ := l2num_all 3 (by omega) (cutA 44 [] w)
  have hlp := l2loop (cutA 44 [] w) rs (by omega) hrl (fun i h => (he i h).1) ok (cutA 44 [] w).length 0 (by omega)
  have hlp' : Evt (fun k => spec_l2Parse.l0 ((cutA 44 [] w).map mkB) k ok [] 0) (ok && rs.all (·.2), rs.map (·.1)) := by simpa using hlp
  refine ⟨rs.map (·.1), _, by rw [List.length_map]; omega, hlp', fun h => ?_⟩
  rw [Bool.and_eq_true] at h
  refine ⟨h.1, ?_⟩
  rw [all_map_dg (cutA 44 [] w) rs hrl (fun i hi => (he i hi).2) h.2, cutA_join]; simp
theorem l2Parse_ev (l : List UInt8) (hl : l.length ≤ 1048576) : ∃ r, Evt (fun k => spec_l2Parse.f k (mkB l)) r ∧ (r.2 = true → spec_l2Fault_v r.1 = 0 ∧ ruleL r.1 [32] = l) := by
  unfold spec_l2Parse.f
  have hs := spec_l2Cut_ev l 32 hl
  by_cases h3 : (cutA 32 [] l).length = 3
  · obtain ⟨w0, w1, w2, hw⟩ := three h3
    have hsz := congrArg List.length (three_sz hw)
    simp only [List.length_append, List.length_cons, List.length_nil] at hsz
    have hfl := three_sz hw
    rw [hw] at hs
    by_cases h0 : w1 = [111, 102]
    · obtain ⟨r0, e0, q0⟩ := l2num w0 1 (by omega)
      have e4 := spec_l2Cut_ev w2 44 (by omega)
      obtain ⟨xs, ok', hxs, e5, q5⟩ := l2keys_ev w2 r0.2 (by omega)
      obtain ⟨r, e6, p1, p2, _⟩ := l2_end xs r0.1 0 ok' hxs
      subst h0
      refine ⟨r, Evt.bind hs (Evt.chk rfl (Evt.f ?_ (Evt.chk rfl (Evt.bind e0 (Evt.chk rfl (Evt.bind e4 (Evt.bind e5 ?_))))))), fun h => ?_⟩
      rotate_left
      · dsimp only [cur2]
        exact Evt.bind (Evt.f rfl (Evt.self _)) e6
      rotate_left
      · show ((((3 : Int) != 3) && ((3 : Int) != 5)) || (!sEq (mkB [111, 102]) (mkB [111, 102]))) = false
        rw [neg_self]; rfl
      · obtain ⟨h1, h2⟩ := p2 h
        obtain ⟨h3, h4⟩ := q5 h1
        refine ⟨by rw [p1]; exact h2, ?_⟩
        rw [p1, hfl]
        unfold ruleL
        have a1 := (q0 h3).2.1
        simp only [a1, ← h4]
        simp
    · refine ⟨(zRule, false), Evt.bind hs (Evt.chk rfl (Evt.t ?_ (Evt.self _))), fun h => by cases h⟩
      show ((((3 : Int) != 3) && ((3 : Int) != 5)) || (!sEq (mkB w1) (mkB [111, 102]))) = true
      rw [sEq_mkf h0]; rfl
  · by_cases h5 : (cutA 32 [] l).length = 5
    · obtain ⟨w0, w1, w2, w3, w4, hw⟩ := five h5
      have hsz := congrArg List.length (five_sz hw)
      simp only [List.length_append, List.length_cons, List.length_nil] at hsz
      have hfl := five_sz hw
      rw [hw] at hs
      by_cases h0 : w1 = [111, 102]
      · obtain ⟨r0, e0, q0⟩ := l2num w0 1 (by omega)
        have e4 := spec_l2Cut_ev w2 44 (by omega)
        obtain ⟨xs, ok', hxs, e5, q5⟩ := l2keys_ev w2 r0.2 (by omega)
        obtain ⟨r4, e7, q4⟩ := l2num w4 3 (by omega)
        obtain ⟨r, e6, p1, p2, _⟩ := l2_end xs r0.1 r4.1 (((ok' && r4.2) && (sEq (mkB w3) (mkB [97, 102, 116, 101, 114]))) && (decide (0 < r4.1))) hxs
        subst h0
        refine ⟨r, Evt.bind hs (Evt.chk rfl (Evt.f ?_ (Evt.chk rfl (Evt.bind e0 (Evt.chk rfl (Evt.bind e4 (Evt.bind e5 (Evt.bind (Evt.t rfl (Evt.chk rfl (Evt.bind e7 (Evt.chk (or_ok rfl) (Evt.self _))))) e6)))))))), fun h => ?_⟩
        · show ((((5 : Int) != 3) && ((5 : Int) != 5)) || (!sEq (mkB [111, 102]) (mkB [111, 102]))) = false
          rw [neg_self]; rfl
        · obtain ⟨h1, h2⟩ := p2 h
          rw [Bool.and_eq_true, Bool.and_eq_true, Bool.and_eq_true, decide_eq_true_eq] at h1
          obtain ⟨⟨⟨h1a, h1b⟩, h1c⟩, h1d⟩ := h1
          obtain ⟨h3, h4⟩ := q5 h1a
          have h1e := sEq_mk.1 h1c
          refine ⟨by rw [p1]; exact h2, ?_⟩
          rw [p1, hfl]
          unfold ruleL
          have a1 := (q0 h3).2.1
          have a2 := (q4 h1b).2.1
          have a3 : (r4.1 != 0) = true := by rw [bne_iff_ne]; omega
          simp only [a1, a2, a3, ← h4, ← h1e, cond_true]
          simp [List.append_assoc]
      · refine ⟨(zRule, false), Evt.bind hs (Evt.chk rfl (Evt.t ?_ (Evt.self _))), fun h => by cases h⟩
        show ((((5 : Int) != 3) && ((5 : Int) != 5)) || (!sEq (mkB w1) (mkB [111, 102]))) = true
        rw [sEq_mkf h0]; rfl
    · have h3' : ((((cutA 32 [] l).map mkB).length : Int) != 3) = true := by rw [List.length_map, bne_iff_ne]; omega
      have h5' : ((((cutA 32 [] l).map mkB).length : Int) != 5) = true := by rw [List.length_map, bne_iff_ne]; omega
      refine ⟨(zRule, false), Evt.bind hs (Evt.chk (by rw [h3', h5']; rfl) (Evt.t (by rw [h3', h5']; rfl) (Evt.self _))), fun h => by cases h⟩
theorem l2Parse_of (r : Rule) (hf : spec_l2Fault_v r = 0) : Evt (fun k => spec_l2Parse.f k (mkB (ruleL r [32]))) (r, true) := by
  have hf' : (spec_l2Fault_v r != 0) = false := by rw [hf]; rfl
  have hr := rule_ok r hf'
  have hl := ruleL_len r 32 hr
  have hkl := keys_len hr
  have hn := hr.need; have ha := hr.after
  unfold spec_l2Parse.f
  have hs := spec_l2Cut_ev (ruleL r [32]) 32 (by omega)
  rw [rule_cut r 32 (.inl rfl)] at hs
  have e4 := spec_l2Cut_ev (Lib.join (r.fKeys.map dgL) [44]) 44 (by omega)
  have e5 : Evt (fun k => spec_l2Parse.l0 ((cutA 44 [] (Lib.join (r.fKeys.map dgL) [44])).map mkB) k true [] 0) (true, r.fKeys) := by
    have h1 := cut_dgs (c := 44) nodg r.fKeys (keys_ne hr)
    have hn3 := hr.n3
    have hlp := l2loop (r.fKeys.map dgL) (r.fKeys.map fun x => (x, true)) (by rw [List.length_map]; omega) (by simp) (fun i h => by
        have hi : i < r.fKeys.length := by simpa using h
        have hx := hr.key _ (List.getElem_mem hi)
        simp only [List.getElem_map]
        exact l2num_dg _ 3 (by omega) (by omega) (dg_l3 (by omega))) true (r.fKeys.map dgL).length 0 (by omega)
    rw [h1]
    have e7 : ((r.fKeys.map fun x => (x, true)).map (·.1)) = r.fKeys := by rw [List.map_map]; simp [Function.comp_def]
    have e8 : (true && (r.fKeys.map fun x => (x, true)).all (·.2)) = true := by simp
    rw [e7, e8] at hlp
    simpa using hlp
  have e0 := l2num_dg r.fNeed 1 (by omega) (by omega) (dg_l1 (by omega))
  obtain ⟨z, e6, p1, _, p3⟩ := l2_end r.fKeys r.fNeed r.fAfter true (by have := hr.n3; omega)
  have hz : z = (r, true) := Prod.ext p1 (p3 rfl hf)
  rw [hz] at e6
  unfold ruleWs at hs
  cases hq : r.fAfter != 0
  · rw [hq] at hs
    have h0 : r.fAfter = 0 := by simpa using hq
    refine Evt.bind hs (Evt.chk rfl (Evt.f ?_ (Evt.chk rfl (Evt.bind e0 (Evt.chk rfl (Evt.bind e4 (Evt.bind e5 ?_)))))))
    rotate_left
    · dsimp only [cur2]
      refine Evt.bind (Evt.f rfl (Evt.self _)) ?_
      rw [h0] at e6; exact e6
    · show ((((3 : Int) != 3) && ((3 : Int) != 5)) || (!sEq (mkB [111, 102]) (mkB [111, 102]))) = false
      rw [neg_self]; rfl
  · rw [hq] at hs
    have h0 : r.fAfter ≠ 0 := by simpa using hq
    have e7 := l2num_dg r.fAfter 3 (by omega) (by omega) (dg_l3 (by omega))
    refine Evt.bind hs (Evt.chk rfl (Evt.f ?_ (Evt.chk rfl (Evt.bind e0 (Evt.chk rfl (Evt.bind e4 (Evt.bind e5 (Evt.bind (a := (true, r.fAfter)) (Evt.t rfl (Evt.chk rfl (Evt.bind e7 (Evt.chk rfl (Evt.ret ?_))))) e6))))))))
    · show ((((5 : Int) != 3) && ((5 : Int) != 5)) || (!sEq (mkB [111, 102]) (mkB [111, 102]))) = false
      rw [neg_self]; rfl
    · have h1 : sEq (mkB [97, 102, 116, 101, 114]) (mkB [97, 102, 116, 101, 114]) = true := sEq_mk.2 rfl
      have h2 : decide (0 < r.fAfter) = true := decide_eq_true (by omega)
      show ((((true && true) && (sEq (mkB [97, 102, 116, 101, 114]) (mkB [97, 102, 116, 101, 114]))) && (decide (0 < r.fAfter))), r.fAfter) = (true, r.fAfter)
      rw [h1, h2]; rfl
theorem sw_rule2 (r : Rule) : (ruleL r [95]).map (swG 95 32) = ruleL r [32] := by
  have hd : ∀ n : Int, (dgL n).map (swG 95 32) = dgL n := fun n => sw_idG (dg_no nodg n)
  have hj : (Lib.join (r.fKeys.map dgL) [44]).map (swG 95 32) = Lib.join (r.fKeys.map dgL) [44] := sw_idG (no_keys (.inr rfl) _)
  have h1 : [95].map (swG 95 32) = [32] := rfl
  have h2 : [111, 102].map (swG 95 32) = [111, 102] := rfl
  have h3 : [97, 102, 116, 101, 114].map (swG 95 32) = [97, 102, 116, 101, 114] := rfl
  unfold ruleL
  cases r.fAfter != 0
  · simp only [cond_false, List.map_append, hd, hj, h1, h2, List.map_nil]
  · simp only [cond_true, List.map_append, hd, hj, h1, h2, h3]
theorem l3outs_loop (ws : List (List UInt8)) (hn : ws.length ≤ 1048577) (hp : ∀ p ∈ ws, p.length ≤ 1048576) (K M : Int) (I : List Ref × Bool) : ∀ (d i : Nat) (acc : List Out) (ok : Bool), i + d = ws.length → acc.length + 1 ≤ i → (ok = true → ∀ o ∈ acc, spec_l2Fault_v o.fRule = 0) →
    ∃ o, Evt (fun k => spec_l3Parse.l0 (ws.map mkB) K M I k acc ok (i : Int)) o ∧ ((∃ t, o = .inl (t, false)) ∨ ∃ outs ok', o = .inr (outs, ok') ∧ (ok' = true → (∀ o ∈ outs, spec_l2Fault_v o.fRule = 0) ∧ outs.length ≤ 1048576))
  | 0, i, acc, ok, hi, ha, hk => by
    refine ⟨.inr (acc, ok), Evt.s ?_, .inr ⟨acc, ok, rfl, fun h => ⟨hk h, by omega⟩⟩⟩
    simp only [spec_l3Parse.l0_s, List.length_map]
    rw [ge_lt (show ws.length ≤ i by omega)]
    exact Evt.f rfl (Evt.self _)
  | d + 1, i, acc, false, hi, ha, hk => by
    refine ⟨.inr (acc, false), Evt.s ?_, .inr ⟨acc, false, rfl, fun h => by cases h⟩⟩
    simp only [spec_l3Parse.l0_s, Bool.and_false]
    exact Evt.f rfl (Evt.self _)
  | d + 1, i, acc, true, hi, ha, hk => by
    have hlt : i < ws.length := by omega
    have hg : gt (ws.map mkB) (i : Int) = mkB ws[i] := by rw [gt_eq (by simpa using hlt)]; simp
    have hle := hp _ (List.getElem_mem hlt)
    have hs := spec_l2Cut_ev ws[i] 61 hle
    have hc : (decide ((i : Int) < (ws.length : Int)) && true) = true := by rw [int_lt hlt]; rfl
    by_cases h2 : (cutA 61 [] ws[i]).length = 2
    · obtain ⟨a, b, hw⟩ := two h2
      have hb := cutA_le 61 ws[i] [] b (by rw [hw]; simp)
      simp only [List.length_nil, Nat.zero_add] at hb
      rw [hw] at hs
      obtain ⟨v, e1, _⟩ := l2num a 7 (by omega)
      have e2 := swapG_ev 95 32 b (by omega)
      obtain ⟨r, e3, q3⟩ := l2Parse_ev (b.map (swG 95 32)) (by rw [List.length_map]; omega)
      obtain ⟨o, ho, q⟩ := l3outs_loop ws hn hp K M I d (i + 1) (acc ++ [⟨v.1, ⟨r.1.fKeys, r.1.fNeed, r.1.fAfter⟩⟩]) (v.2 && r.2) (by omega) (by simp; omega) (fun h o ho => by
        rw [Bool.and_eq_true] at h
        rcases List.mem_append.1 ho with ho | ho
        · exact hk rfl o ho
        · simp at ho; subst ho; exact (q3 h.2).1)
      refine ⟨o, Evt.s ?_, q⟩
      simp only [spec_l3Parse.l0_s, List.length_map, hg]
      refine Evt.t hc (Evt.chk (idx_ok hlt) (Evt.bind hs (Evt.f rfl (Evt.chk rfl (Evt.bind e1 (Evt.chk rfl (Evt.bind e2 (Evt.bind e3 (Evt.chk (leB_mk2 (by simp; omega)) ?_)))))))))
      rw [w64 hlt (by omega)]; exact ho
    · refine ⟨.inl (⟨K, M, I.1, acc⟩, false), Evt.s ?_, .inl ⟨_, rfl⟩⟩
      simp only [spec_l3Parse.l0_s, List.length_map, hg]
      refine Evt.t hc (Evt.chk (idx_ok hlt) (Evt.bind hs (Evt.t ?_ (Evt.self _))))
      rw [List.length_map, bne_iff_ne]; omega
theorem l3_end (l : List UInt8) (t : Tx) (ok : Bool) (hs : ok = true → smTx t) : ∃ r, Evt (fun k => ((bif ok then spec_l3Fault.f k t else some default).bind fun a => ((bif (ok && (a == 0)) then spec_l3Text.f k t else some default).bind fun b => some (t, (((ok && (a == 0)) && (sEq b (mkB l))) && (decide (((l.length : Nat) : Int) ≤ 300))))))) r ∧ (r.2 = true → spec_l3Fault_v r.1 = 0 ∧ txL r.1 = l ∧ l.length ≤ 300) ∧ (ok = true → spec_l3Fault_v t = 0 → txL t = l → l.length ≤ 300 → r = (t, true)) := by
  cases ok
  · exact ⟨(t, false), Evt.bind (Evt.f rfl (Evt.self _)) (Evt.bind (Evt.f rfl (Evt.self _)) (Evt.self _)), fun h => (by cases h), fun h => (by cases h)⟩
  · have hm := hs rfl
    have ef := spec_l3Fault_ev t hm
    cases hz : spec_l3Fault_v t == 0
    · refine ⟨(t, false), Evt.bind (Evt.t rfl ef) (Evt.bind (Evt.f (by rw [hz]; rfl) (Evt.self _)) (Evt.ret ?_)), fun h => (by cases h), fun _ h => ?_⟩
      · rw [hz]; rfl
      · rw [h] at hz; cases hz
    · have h0 : spec_l3Fault_v t = 0 := by simpa using hz
      have et := spec_l3Text_ev t hm (by rw [h0]; rfl)
      refine ⟨(t, (sEq (mkB (txL t)) (mkB l)) && (decide (((l.length : Nat) : Int) ≤ 300))), Evt.bind (Evt.t rfl ef) (Evt.bind (Evt.t (by rw [hz]; rfl) et) (Evt.ret ?_)), fun h => ?_, fun _ _ h3 h4 => ?_⟩
      · rw [hz]; rfl
      · have h' : (sEq (mkB (txL t)) (mkB l) && (decide (((l.length : Nat) : Int) ≤ 300))) = true := h
        rw [Bool.and_eq_true, decide_eq_true_eq] at h'
        exact ⟨h0, sEq_mk.1 h'.1, by omega⟩
      · rw [h3, sEq_mk.2 rfl, decide_eq_true (by omega)]; rfl
theorem l3tail (l : List UInt8) (ws : List (List UInt8)) (hn : ws.length ≤ 1048577) (hp0 : 2 ≤ ws.length → ∀ p ∈ ws, p.length ≤ 1048575) (K M : Int) (at_ : Nat) (hat : at_ ≤ 2) (h1 : 1 ≤ at_) : ∃ r, Evt (fun k => (bif (decide ((ws.length : Int) < (wrap64 ((at_ : Int) + 2)))) then some ((⟨K, M, ([] : List Ref), ([] : List Out)⟩ : Tx), false) else (Zk.chk (idxOk (at_ : Int) ws.length) ((spec_l3Ins.f k (gt (ws.map mkB) (at_ : Int))).bind fun t2323 => ((spec_l3Parse.l0 (ws.map mkB) K M t2323 k ([] : List Out) t2323.2 (wrap64 ((at_ : Int) + 1))).bind fun o2419 => thn o2419 (fun r => some r) (cur2 (fun a2416 a2418 => ((bif a2418 then spec_l3Fault.f k (⟨K, M, t2323.1, a2416⟩ : Tx) else some default).bind fun t2527 => ((bif (a2418 && (t2527 == 0)) then spec_l3Text.f k (⟨K, M, t2323.1, a2416⟩ : Tx) else some default).bind fun t2529 => some ((⟨K, M, t2323.1, a2416⟩ : Tx), (((a2418 && (t2527 == 0)) && (sEq t2529 (mkB l))) && (decide (((l.length : Nat) : Int) ≤ 300))))))))))))) r ∧ (r.2 = true → spec_l3Fault_v r.1 = 0 ∧ txL r.1 = l ∧ l.length ≤ 300) := by
  have e2 : wrap64 ((at_ : Int) + 2) = ((at_ + 2 : Nat) : Int) := by rw [wrap64_in _ (by omega)]; omega
  have e1 : wrap64 ((at_ : Int) + 1) = ((at_ + 1 : Nat) : Int) := by rw [wrap64_in _ (by omega)]; omega
  rw [e2, e1]
  by_cases hlt : ws.length < at_ + 2
  · exact ⟨(⟨K, M, [], []⟩, false), Evt.t (by simp; omega) (Evt.self _), fun h => by cases h⟩
  · have hlt' : at_ < ws.length := by omega
    have hp := hp0 (by omega)
    have hg : gt (ws.map mkB) (at_ : Int) = mkB ws[at_] := by rw [gt_eq (by simpa using hlt')]; simp
    rw [hg]
    obtain ⟨I, ei, hi⟩ := l3Ins_ev ws[at_] (hp _ (List.getElem_mem hlt'))
    obtain ⟨o, ho, q⟩ := l3outs_loop ws hn (fun p h => by have := hp p h; omega) K M I (ws.length - (at_ + 1)) (at_ + 1) [] I.2 (by omega) (by simp) (fun _ o ho => by simp at ho)
    rcases q with ⟨t, rfl⟩ | ⟨outs, ok, rfl, hk⟩
    · exact ⟨(t, false), Evt.f (by simp; omega) (Evt.chk (idx_ok hlt') (Evt.bind ei (Evt.bind ho (Evt.self _)))), fun h => by cases h⟩
    · obtain ⟨r, er, q1, _⟩ := l3_end l ⟨K, M, I.1, outs⟩ ok (fun h => sm_tx K M _ _ hi (hk h).2 (hk h).1)
      exact ⟨r, Evt.f (by simp; omega) (Evt.chk (idx_ok hlt') (Evt.bind ei (Evt.bind ho er))), q1⟩
theorem l3Parse_ev (l : List UInt8) (hl : l.length ≤ 1048576) : ∃ r, Evt (fun k => spec_l3Parse.f k (mkB l)) r ∧ (r.2 = true → spec_l3Fault_v r.1 = 0 ∧ txL r.1 = l ∧ l.length ≤ 300) := by
  have cj : (⟨#[106, 111, 105, 110]⟩ : ByteArray) = mkB [106, 111, 105, 110] := rfl
  have cl : (⟨#[108, 101, 97, 118, 101]⟩ : ByteArray) = mkB [108, 101, 97, 118, 101] := rfl
  have cp : (⟨#[112, 97, 121]⟩ : ByteArray) = mkB [112, 97, 121] := rfl
  have hs := spec_l2Cut_ev l 32 (by omega)
  have hc := cutA_len 32 l []
  have hpos := cutA_pos 32 l []
  have hle : 2 ≤ (cutA 32 [] l).length → ∀ p ∈ cutA 32 [] l, p.length ≤ 1048575 := fun h2 p hp => by have := cut_word_lt rfl h2 hp; omega
  unfold spec_l3Parse.f
  simp only [mkB_size, cj, cl, cp]
  generalize hws : cutA 32 [] l = ws at hs hc hpos hle
  have hlm : (ws.map mkB).length = ws.length := List.length_map ..
  have hg0 : gt (ws.map mkB) (0 : Int) = mkB (ws[0]'(by omega)) := by
    have := gt_eq (xs := ws.map mkB) (i := (0 : Int)) (by simp; omega)
    rw [this]; simp
  have hi0 : idxOk (0 : Int) (ws.map mkB).length = true := by rw [hlm]; exact idx_ok (i := 0) (by omega)
  have htail := fun K M at_ hat h1 => l3tail l ws (by omega) hle K M at_ hat h1
  generalize hw0 : ws[0]'(by omega) = w0 at hg0
  by_cases hjl : w0 = [106, 111, 105, 110] ∨ w0 = [108, 101, 97, 118, 101]
  · have hcond : ((sEq (mkB w0) (mkB [106, 111, 105, 110])) || (sEq (mkB w0) (mkB [108, 101, 97, 118, 101]))) = true := by
      rw [Bool.or_eq_true, sEq_mk, sEq_mk]; exact hjl
    by_cases h2 : ws.length < 2
    · refine ⟨(zTx, false), Evt.bind hs (Evt.bind (Evt.chk hi0 (Evt.chk (or_ok hi0) (Evt.t (by rw [hg0]; exact hcond) (Evt.t (by rw [hlm]; simp; omega) (Evt.self _))))) (Evt.self _)), fun h => by cases h⟩
    · have hg1 : gt (ws.map mkB) (1 : Int) = mkB (ws[1]'(by omega)) := by
        have := gt_eq (xs := ws.map mkB) (i := (1 : Int)) (by simp; omega)
        rw [this]; simp
      have hi1 : idxOk (1 : Int) (ws.map mkB).length = true := by rw [hlm]; exact idx_ok (i := 1) (by omega)
      obtain ⟨n, en, _⟩ := l2num (ws[1]'(by omega)) 3 (by omega)
      cases hn2 : n.2
      · refine ⟨(zTx, false), Evt.bind hs (Evt.bind (Evt.chk hi0 (Evt.chk (or_ok hi0) (Evt.t (by rw [hg0]; exact hcond) (Evt.f (by rw [hlm]; simp; omega) (Evt.chk hi1 (Evt.bind (by rw [hg1]; exact en) (Evt.t (by rw [hn2]; rfl) (Evt.self _)))))))) (Evt.self _)), fun h => by cases h⟩
      · by_cases hlv : w0 = [108, 101, 97, 118, 101]
        · obtain ⟨r, er, q⟩ := htail 2 n.1 2 (by omega) (by omega)
          refine ⟨r, Evt.bind hs (Evt.bind (Evt.chk hi0 (Evt.chk (or_ok hi0) (Evt.t (by rw [hg0]; exact hcond) (Evt.f (by rw [hlm]; simp; omega) (Evt.chk hi1 (Evt.bind (by rw [hg1]; exact en) (Evt.f (by rw [hn2]; rfl) (Evt.chk hi0 (Evt.t (by rw [hg0]; exact sEq_mk.2 hlv) (Evt.self _)))))))))) ?_), q⟩
          dsimp only [thn, cur3]
          rw [hlm]; exact er
        · obtain ⟨r, er, q⟩ := htail 1 n.1 2 (by omega) (by omega)
          refine ⟨r, Evt.bind hs (Evt.bind (Evt.chk hi0 (Evt.chk (or_ok hi0) (Evt.t (by rw [hg0]; exact hcond) (Evt.f (by rw [hlm]; simp; omega) (Evt.chk hi1 (Evt.bind (by rw [hg1]; exact en) (Evt.f (by rw [hn2]; rfl) (Evt.chk hi0 (Evt.f (by rw [hg0]; exact sEq_mkf hlv) (Evt.self _)))))))))) ?_), q⟩
          dsimp only [thn, cur3]
          rw [hlm]; exact er
  · have hcond : ((sEq (mkB w0) (mkB [106, 111, 105, 110])) || (sEq (mkB w0) (mkB [108, 101, 97, 118, 101]))) = false := by
      rw [sEq_mkf (fun e => hjl (.inl e)), sEq_mkf (fun e => hjl (.inr e))]; rfl
    by_cases hpay : w0 = [112, 97, 121]
    · obtain ⟨r, er, q⟩ := htail 0 0 1 (by omega) (by omega)
      refine ⟨r, Evt.bind hs (Evt.bind (Evt.chk hi0 (Evt.chk (or_ok hi0) (Evt.f (by rw [hg0]; exact hcond) (Evt.chk hi0 (Evt.f (by rw [hg0, hpay]; exact neg_self) (Evt.self _)))))) ?_), q⟩
      dsimp only [thn, cur3]
      rw [hlm]; exact er
    · exact ⟨(zTx, false), Evt.bind hs (Evt.bind (Evt.chk hi0 (Evt.chk (or_ok hi0) (Evt.f (by rw [hg0]; exact hcond) (Evt.chk hi0 (Evt.t (by rw [hg0, sEq_mkf hpay]; rfl) (Evt.self _)))))) (Evt.self _)), fun h => by cases h⟩
theorem l3outs_of (K M : Int) (I : List Ref × Bool) (pre : List (List UInt8)) (os : List Out) (hpre : pre.length ≤ 3) (ho : os.length ≤ 4) (hx : ∀ o ∈ os, (1 ≤ o.fValue ∧ o.fValue ≤ 1000000) ∧ spec_l2Fault_v o.fRule = 0) : ∀ (d j : Nat), j + d = os.length → Evt (fun k => spec_l3Parse.l0 ((pre ++ os.map outL).map mkB) K M I k (os.take j) true ((pre.length + j : Nat) : Int)) (.inr (os, true))
  | 0, j, hj => by
    refine Evt.s ?_
    simp only [spec_l3Parse.l0_s, List.length_map, List.length_append]
    rw [List.take_of_length_le (by omega)]
    have e : decide (((pre.length + j : Nat) : Int) < ((pre.length + os.length : Nat) : Int)) = false := ge_lt (by omega)
    rw [e]
    exact Evt.f rfl (Evt.self _)
  | d + 1, j, hj => by
    have hlt : j < os.length := by omega
    have hxo := hx _ (List.getElem_mem hlt)
    have hr := rule_ok os[j].fRule (by rw [hxo.2]; rfl)
    have hrl := ruleL_len os[j].fRule 95 hr
    have hll : (pre ++ os.map outL).length = pre.length + os.length := by simp
    have hlt2 : pre.length + j < (pre ++ os.map outL).length := by omega
    have hg : gt ((pre ++ os.map outL).map mkB) ((pre.length + j : Nat) : Int) = mkB (outL os[j]) := by
      rw [gt_eq (by simp; omega)]
      simp only [Int.toNat_natCast, List.getElem_map]
      rw [List.getElem_append_right (by omega)]
      simp
    have hs := spec_l2Cut_ev (outL os[j]) 61 (by have := outL_len hxo; omega)
    rw [cut_out] at hs
    have e1 := l2num_dg os[j].fValue 7 (by omega) (by omega) (dg_l7 (by omega))
    have e2 := swapG_ev 95 32 (ruleL os[j].fRule [95]) (by omega)
    rw [sw_rule2] at e2
    have e3 := l2Parse_of os[j].fRule hxo.2
    refine Evt.s ?_
    simp only [spec_l3Parse.l0_s, List.length_map, hg]
    refine Evt.t (by rw [int_lt hlt2]; rfl) (Evt.chk (idx_ok hlt2) (Evt.bind hs (Evt.f rfl (Evt.chk rfl (Evt.bind e1 (Evt.chk rfl (Evt.bind e2 (Evt.bind e3 (Evt.chk (leB_mk2 (by simp; omega)) ?_)))))))))
    rw [w64 hlt2 (by omega)]
    have et : os.take j ++ [os[j]] = os.take (j + 1) := (List.take_succ_eq_append_getElem hlt).symm
    have := l3outs_of K M I pre os hpre ho hx d (j + 1) (by omega)
    rw [← et] at this
    exact this
theorem l3tail_of (K M : Int) (rs : List Ref) (os : List Out) (ht : TxOK ⟨K, M, rs, os⟩) (h0 : spec_l3Fault_v ⟨K, M, rs, os⟩ = 0) (hl : (txL ⟨K, M, rs, os⟩).length ≤ 300) (pre ws : List (List UInt8)) (at_ : Nat) (hpre : pre.length = at_) (hat : at_ ≤ 2) (hw : ws = pre ++ [Lib.join (rs.map refL) [43]] ++ os.map outL) : Evt (fun k => (bif (decide ((ws.length : Int) < (wrap64 ((at_ : Int) + 2)))) then some ((⟨K, M, ([] : List Ref), ([] : List Out)⟩ : Tx), false) else (Zk.chk (idxOk (at_ : Int) ws.length) ((spec_l3Ins.f k (gt (ws.map mkB) (at_ : Int))).bind fun t2323 => ((spec_l3Parse.l0 (ws.map mkB) K M t2323 k ([] : List Out) t2323.2 (wrap64 ((at_ : Int) + 1))).bind fun o2419 => thn o2419 (fun r => some r) (cur2 (fun a2416 a2418 => ((bif a2418 then spec_l3Fault.f k (⟨K, M, t2323.1, a2416⟩ : Tx) else some default).bind fun t2527 => ((bif (a2418 && (t2527 == 0)) then spec_l3Text.f k (⟨K, M, t2323.1, a2416⟩ : Tx) else some default).bind fun t2529 => some ((⟨K, M, t2323.1, a2416⟩ : Tx), (((a2418 && (t2527 == 0)) && (sEq t2529 (mkB (txL ⟨K, M, rs, os⟩)))) && (decide ((((txL ⟨K, M, rs, os⟩).length : Nat) : Int) ≤ 300))))))))))))) ((⟨K, M, rs, os⟩ : Tx), true) := by
  have e2 : wrap64 ((at_ : Int) + 2) = ((at_ + 2 : Nat) : Int) := by rw [wrap64_in _ (by omega)]; omega
  have e1 : wrap64 ((at_ : Int) + 1) = ((at_ + 1 : Nat) : Int) := by rw [wrap64_in _ (by omega)]; omega
  rw [e2, e1]
  have o1 : 1 ≤ os.length := ht.outs1
  have o4 : os.length ≤ 4 := ht.outs4
  have i1 : 1 ≤ rs.length := ht.ins1
  have i4 : rs.length ≤ 4 := ht.ins4
  have hll : ws.length = at_ + 1 + os.length := by rw [hw]; simp [hpre]; omega
  have hg : gt (ws.map mkB) (at_ : Int) = mkB (Lib.join (rs.map refL) [43]) := by
    subst hw; subst hpre
    rw [gt_eq (by simp)]
    simp only [Int.toNat_natCast, List.getElem_map, List.append_assoc]
    rw [List.getElem_append_right (Nat.le_refl _)]
    simp
  rw [hg]
  have ei := l3Ins_of rs i1 i4 ht.ins (ins_len ht)
  have ho := l3outs_of K M (rs, true) (pre ++ [Lib.join (rs.map refL) [43]]) os (by simp; omega) o4 ht.outs os.length 0 (by omega)
  rw [← hw] at ho
  have ea : (pre ++ [Lib.join (rs.map refL) [43]]).length + 0 = at_ + 1 := by simp [hpre]
  rw [ea] at ho
  obtain ⟨r, er, _, q⟩ := l3_end (txL ⟨K, M, rs, os⟩) ⟨K, M, rs, os⟩ true (fun _ => sm_tx K M rs os (by omega) (by omega) (fun o h => (ht.outs o h).2))
  rw [q rfl h0 rfl hl] at er
  exact Evt.f (by simp; omega) (Evt.chk (idx_ok (by omega)) (Evt.bind ei (Evt.bind ho er)))
theorem l3Parse_of (t : Tx) (h0 : spec_l3Fault_v t = 0) (hl : (txL t).length ≤ 300) : Evt (fun k => spec_l3Parse.f k (mkB (txL t))) (t, true) := by
  have ht := tx_ok t (by rw [h0]; rfl)
  obtain ⟨K, M, rs, os⟩ := t
  have cj : (⟨#[106, 111, 105, 110]⟩ : ByteArray) = mkB [106, 111, 105, 110] := rfl
  have cl : (⟨#[108, 101, 97, 118, 101]⟩ : ByteArray) = mkB [108, 101, 97, 118, 101] := rfl
  have cp : (⟨#[112, 97, 121]⟩ : ByteArray) = mkB [112, 97, 121] := rfl
  have hs := spec_l2Cut_ev (txL ⟨K, M, rs, os⟩) 32 (by omega)
  rw [tx_cut] at hs
  unfold spec_l3Parse.f
  simp only [mkB_size, cj, cl, cp]
  have o1 : 1 ≤ os.length := ht.outs1
  have hk : 0 ≤ K ∧ K ≤ 2 := ht.kind
  have h3 : K = 0 ∨ K = 1 ∨ K = 2 := by omega
  rcases h3 with h | h | h
  · have hM : M = 0 := ht.mem0 h
    subst h; subst hM
    have hw : txWs ⟨0, 0, rs, os⟩ = [[112, 97, 121]] ++ [Lib.join (rs.map refL) [43]] ++ os.map outL := rfl
    have et := l3tail_of 0 0 rs os ht h0 hl [[112, 97, 121]] _ 1 rfl (by omega) hw
    rw [hw] at hs et
    refine Evt.bind hs (Evt.bind (Evt.chk (idx_ok (i := 0) (by simp)) (Evt.chk (or_ok (idx_ok (i := 0) (by simp))) (Evt.f ?_ (Evt.chk (idx_ok (i := 0) (by simp)) (Evt.f neg_self (Evt.self _)))))) ?_)
    · show ((sEq (mkB [112, 97, 121]) (mkB [106, 111, 105, 110])) || (sEq (mkB [112, 97, 121]) (mkB [108, 101, 97, 118, 101]))) = false
      rw [sEq_mkf (by decide), sEq_mkf (by decide)]; rfl
    · dsimp only [thn, cur3]
      rw [List.length_map]; exact et
  · subst h
    have hm : 1 ≤ M ∧ M ≤ 999 := ht.mem (show (1 : Int) ≠ 0 by decide)
    have hw : txWs ⟨1, M, rs, os⟩ = [[106, 111, 105, 110], dgL M] ++ [Lib.join (rs.map refL) [43]] ++ os.map outL := rfl
    have et := l3tail_of 1 M rs os ht h0 hl [[106, 111, 105, 110], dgL M] _ 2 rfl (by omega) hw
    rw [hw] at hs et
    have en := l2num_dg M 3 (by omega) (by omega) (dg_l3 (by omega))
    refine Evt.bind hs (Evt.bind (Evt.chk (idx_ok (i := 0) (by simp)) (Evt.chk (or_ok (idx_ok (i := 0) (by simp))) (Evt.t ?_ (Evt.f ?_ (Evt.chk (idx_ok (i := 1) (by simp)) (Evt.bind en (Evt.f rfl (Evt.chk (idx_ok (i := 0) (by simp)) (Evt.f ?_ (Evt.self _)))))))))) ?_)
    · show ((sEq (mkB [106, 111, 105, 110]) (mkB [106, 111, 105, 110])) || (sEq (mkB [106, 111, 105, 110]) (mkB [108, 101, 97, 118, 101]))) = true
      rw [sEq_mk.2 rfl]; rfl
    · rw [List.length_map]; simp; omega
    · exact sEq_mkf (by decide)
    · dsimp only [thn, cur3]
      rw [List.length_map]; exact et
  · subst h
    have hm : 1 ≤ M ∧ M ≤ 999 := ht.mem (show (2 : Int) ≠ 0 by decide)
    have hw : txWs ⟨2, M, rs, os⟩ = [[108, 101, 97, 118, 101], dgL M] ++ [Lib.join (rs.map refL) [43]] ++ os.map outL := rfl
    have et := l3tail_of 2 M rs os ht h0 hl [[108, 101, 97, 118, 101], dgL M] _ 2 rfl (by omega) hw
    rw [hw] at hs et
    have en := l2num_dg M 3 (by omega) (by omega) (dg_l3 (by omega))
    refine Evt.bind hs (Evt.bind (Evt.chk (idx_ok (i := 0) (by simp)) (Evt.chk (or_ok (idx_ok (i := 0) (by simp))) (Evt.t ?_ (Evt.f ?_ (Evt.chk (idx_ok (i := 1) (by simp)) (Evt.bind en (Evt.f rfl (Evt.chk (idx_ok (i := 0) (by simp)) (Evt.t ?_ (Evt.self _)))))))))) ?_)
    · show ((sEq (mkB [108, 101, 97, 118, 101]) (mkB [106, 111, 105, 110])) || (sEq (mkB [108, 101, 97, 118, 101]) (mkB [108, 101, 97, 118, 101]))) = true
      rw [sEq_mk.2 (rfl : ([108, 101, 97, 118, 101] : List UInt8) = _), Bool.or_true]
    · rw [List.length_map]; simp; omega
    · exact sEq_mk.2 rfl
    · dsimp only [thn, cur3]
      rw [List.length_map]; exact et
theorem spec_ParseTx_ex (x0 : ByteArray) (h : x0.size ≤ 1048576) : ∃ r, Evt (fun k => spec_ParseTx.f k x0) r ∧ smTxResult r ∧ ((r = ⟨5, zTx⟩ ∧ ∀ b, spec_l3Fault_v b = 0 → (txL b).length ≤ 300 → x0 ≠ mkB (txL b)) ∨ ∃ b, spec_l3Fault_v b = 0 ∧ (txL b).length ≤ 300 ∧ x0 = mkB (txL b) ∧ r = ⟨0, b⟩) := by
  obtain ⟨l, rfl⟩ : ∃ l, x0 = mkB l := ⟨_, mk_of x0⟩
  rw [mkB_size] at h
  obtain ⟨r, e, q⟩ := l3Parse_ev l h
  cases hr : r.2
  · refine ⟨⟨5, zTx⟩, Evt.bind e (Evt.t (by rw [hr]; rfl) (Evt.self _)), ⟨trivial, trivial, trivial, ⟨by simp [zTx], fun _ h => by simp [zTx] at h⟩, ⟨by simp [zTx], fun _ h => by simp [zTx] at h⟩⟩, .inl ⟨rfl, fun b hb hl hx => ?_⟩⟩
    have h2 := l3Parse_of b hb hl
    rw [← hx] at h2
    have := Evt.uniq e h2
    rw [this] at hr; cases hr
  · obtain ⟨h1, h2, h3⟩ := q hr
    have ht := tx_ok r.1 (by rw [h1]; rfl)
    refine ⟨⟨0, r.1⟩, Evt.bind e (Evt.f (by rw [hr]; rfl) (Evt.self _)), ⟨trivial, ?_⟩, .inr ⟨r.1, h1, by rw [h2]; exact h3, by rw [h2], rfl⟩⟩
    exact sm_tx r.1.fKind r.1.fMember r.1.fIns r.1.fOuts (by have := ht.ins4; omega) (by have := ht.outs4; omega) (fun o ho => (ht.outs o ho).2)
theorem l2Bent_ev (c : List Int) (a : Int) (hc : codeOK c) (h0 : 0 ≤ a) (h1 : a ≤ 700000) : ∃ r a', Evt (fun k => spec_l2Bent.f k ⟨c, a⟩) (r, a') ∧ r.fKeys.length ≤ 10 := by
  obtain ⟨b, a1, e1, q1, q2, hb⟩ := l2Draw_ev c a hc h0 (by omega)
  have hl := (rule_ok b (by rw [hb]; rfl)).n3
  obtain ⟨v, e2, v0, v1⟩ := next_ev c a1 10 hc (by omega) (by omega)
  obtain ⟨x0, f0, _⟩ := pick_ev c (a1 + 1) [0, 1, 1000] hc (by omega) (by simp)
  obtain ⟨x1, f1, _⟩ := pick_ev c (a1 + 1) [0, 4, 2] hc (by omega) (by simp)
  obtain ⟨x2, f2, _⟩ := pick_ev c (a1 + 1) [-1, 999, 1000] hc (by omega) (by simp)
  cases h0 : v == 0
  · cases h1 : v == 1
    · cases h2 : v == 2
      · cases h3 : v == 3
        · exact ⟨_, _, Evt.bind e1 (Evt.bind e2 (Evt.f h0 (Evt.f h1 (Evt.f h2 (Evt.f h3 (Evt.self _)))))), by show b.fKeys.length ≤ 10; omega⟩
        · exact ⟨_, _, Evt.bind e1 (Evt.bind e2 (Evt.f h0 (Evt.f h1 (Evt.f h2 (Evt.t h3 (Evt.self _)))))), by show ([] : List Int).length ≤ 10; simp⟩
      · exact ⟨_, _, Evt.bind e1 (Evt.bind e2 (Evt.f h0 (Evt.f h1 (Evt.t h2 (Evt.bind f2 (Evt.self _)))))), by show b.fKeys.length ≤ 10; omega⟩
    · exact ⟨_, _, Evt.bind e1 (Evt.bind e2 (Evt.f h0 (Evt.t h1 (Evt.bind f1 (Evt.self _))))), by show b.fKeys.length ≤ 10; omega⟩
  · exact ⟨_, _, Evt.bind e1 (Evt.bind e2 (Evt.t h0 (Evt.bind f0 (Evt.chk (leB_mk2 (by simp; omega)) (Evt.self _))))), by show (b.fKeys ++ [x0]).length ≤ 10; simp; omega⟩
theorem l3Bent_ev (c : List Int) (a : Int) (hc : codeOK c) (h0 : 0 ≤ a) (h1 : a ≤ 500000) : ∃ t a', Evt (fun k => spec_l3Bent.f k ⟨c, a⟩) (t, a') ∧ smTx t := by
  obtain ⟨t, a1, e1, q1, q2, ht⟩ := l3Draw_ev c a hc h0 (by omega)
  have hsm := okTx_sm ht
  have i4 := ht.ins4; have o1 := ht.outs1; have o4 := ht.outs4
  obtain ⟨v, e2, v0, v1⟩ := next_ev c a1 14 hc (by omega) (by omega)
  obtain ⟨x0, f0, _⟩ := pick_ev c (a1 + 1) [-1, 3, 0, 1] hc (by omega) (by simp)
  obtain ⟨x1, f1, _⟩ := pick_ev c (a1 + 1) [0, 1000, 5] hc (by omega) (by simp)
  obtain ⟨x2, f2, _⟩ := pick_ev c (a1 + 1) [0, 61, 1] hc (by omega) (by simp)
  obtain ⟨y2, g2, _⟩ := pick_ev c (a1 + 1 + 1) [0, 4] hc (by omega) (by simp)
  obtain ⟨x3, f3, _⟩ := pick_ev c (a1 + 1) [0, 1, 1000001, 99] hc (by omega) (by simp)
  obtain ⟨r4, b4, f4, hr4⟩ := l2Bent_ev c (a1 + 1) hc (by omega) (by omega)
  have hi : idxOk (0 : Int) t.fOuts.length = true := idx_ok (i := 0) (by omega)
  have hset : ∀ y : Out, smOut y → (Lm smOut) (t.fOuts.set ((0 : Int)).toNat y) := fun y hy => ⟨by rw [List.length_set]; exact hsm.2.2.2.1, fun z hz => by
    rcases List.mem_or_eq_of_mem_set hz with h | h
    · exact hsm.2.2.2.2 z h
    · rw [h]; exact hy⟩
  cases h0 : v == 0
  · cases h1 : v == 1
    · cases h2 : v == 2
      · cases h3 : v == 3
        · cases h4 : v == 4
          · cases h5 : v == 5
            · cases h6 : v == 6
              · exact ⟨_, _, Evt.bind e1 (Evt.bind e2 (Evt.f h0 (Evt.f h1 (Evt.f h2 (Evt.f h3 (Evt.f h4 (Evt.f h5 (Evt.f h6 (Evt.self _))))))))), hsm⟩
              · exact ⟨_, _, Evt.bind e1 (Evt.bind e2 (Evt.f h0 (Evt.f h1 (Evt.f h2 (Evt.f h3 (Evt.f h4 (Evt.f h5 (Evt.t h6 (Evt.chk rfl (Evt.chk rfl (Evt.self _))))))))))), ⟨trivial, trivial, hsm.2.2.1, by show (List.replicate ((5 : Int)).toNat (⟨0, ⟨[], 0, 0⟩⟩ : Out)).length ≤ _; simp, fun o ho => by
                  have : o = ⟨0, ⟨[], 0, 0⟩⟩ := (List.mem_replicate.1 ho).2
                  subst this; exact ⟨trivial, ⟨by simp, fun _ _ => trivial⟩, trivial, trivial⟩⟩⟩
            · exact ⟨_, _, Evt.bind e1 (Evt.bind e2 (Evt.f h0 (Evt.f h1 (Evt.f h2 (Evt.f h3 (Evt.f h4 (Evt.t h5 (Evt.self _)))))))), ⟨trivial, trivial, ⟨by simp, fun _ h => by cases h⟩, hsm.2.2.2⟩⟩
          · exact ⟨_, _, Evt.bind e1 (Evt.bind e2 (Evt.f h0 (Evt.f h1 (Evt.f h2 (Evt.f h3 (Evt.t h4 (Evt.bind f4 (Evt.chk hi (Evt.self _))))))))), ⟨trivial, trivial, hsm.2.2.1, hset _ ⟨trivial, ⟨by show r4.fKeys.length ≤ _; omega, fun _ _ => trivial⟩, trivial, trivial⟩⟩⟩
        · exact ⟨_, _, Evt.bind e1 (Evt.bind e2 (Evt.f h0 (Evt.f h1 (Evt.f h2 (Evt.t h3 (Evt.bind f3 (Evt.chk hi (Evt.self _)))))))), ⟨trivial, trivial, hsm.2.2.1, hset _ ⟨trivial, (hsm.2.2.2.2 _ (gt_mem (i := 0) (by omega))).2⟩⟩⟩
      · exact ⟨_, _, Evt.bind e1 (Evt.bind e2 (Evt.f h0 (Evt.f h1 (Evt.t h2 (Evt.bind f2 (Evt.bind g2 (Evt.chk (leB_mk2 (by simp; omega)) (Evt.self _)))))))), ⟨trivial, trivial, ⟨by show (t.fIns ++ [(⟨x2, y2⟩ : Ref)]).length ≤ _; simp; omega, fun _ _ => ⟨trivial, trivial⟩⟩, hsm.2.2.2⟩⟩
    · exact ⟨_, _, Evt.bind e1 (Evt.bind e2 (Evt.f h0 (Evt.t h1 (Evt.bind f1 (Evt.self _))))), ⟨trivial, trivial, hsm.2.2⟩⟩
  · exact ⟨_, _, Evt.bind e1 (Evt.bind e2 (Evt.t h0 (Evt.bind f0 (Evt.self _)))), ⟨trivial, trivial, hsm.2.2⟩⟩
theorem DrawTxText_ev (c : List Int) (hc : codeOK c) : ∃ t, Evt (fun k => spec_DrawTxText.f k c) t ∧ smTx t := by
  obtain ⟨t, a, e, h⟩ := l3Bent_ev c 0 hc (by omega) (by omega)
  exact ⟨t, Evt.bind (source_ev c) (Evt.bind e (Evt.self _)), h⟩
def spec_TxText_v (x0 : Tx) : TextResult := (bif ((spec_l3Fault_v x0) != 0) then (⟨(spec_l3Fault_v x0), (⟨#[]⟩ : ByteArray)⟩ : TextResult) else (bif (decide (300 < ((spec_l3Text_v x0).size : Int))) then (⟨2, (⟨#[]⟩ : ByteArray)⟩ : TextResult) else (⟨0, (spec_l3Text_v x0)⟩ : TextResult)))
theorem spec_TxText_ev (x0 : Tx) (h_x0 : smTx x0) : Evt (fun k => spec_TxText.f k x0) (spec_TxText_v x0) :=
  (Evt.bind (spec_l3Fault_ev x0 (h_x0)) (Evt.ifh (fun hc1 => (Evt.self _)) (fun hc1 => (Evt.bind (spec_l3Text_ev x0 (h_x0) (by first | assumption | (simp_all; omega) | (have hf0 := h_x0.2.2.1.1; have hf1 := h_x0.2.2.2.1; simp only [leB, decide_eq_true_eq, List.length_append, List.length_cons, List.length_nil]; omega))) (Evt.ifh (fun hc0 => (Evt.self _)) (fun hc0 => (Evt.self _)))))))
def spec_TxFault_v (x0 : Tx) : Int := (spec_l3Fault_v x0)
theorem spec_TxFault_ev (x0 : Tx) (h_x0 : smTx x0) : Evt (fun k => spec_TxFault.f k x0) (spec_TxFault_v x0) :=
  (Evt.bind (spec_l3Fault_ev x0 (h_x0)) (Evt.self _))
def slices_Index_string_v (x0 : List ByteArray) (x1 : ByteArray) : Int := (onO ((List.range' 0 (x0.length - 0)).findSome? (fun (i0 : Nat) => (bif (sEq x1 (gt x0 (i0 : Int))) then (some (i0 : Int)) else none))) (fun r => r) (-1))
theorem slices_Index_string_ev (x0 : List ByteArray) (x1 : ByteArray) (h_x0 : (Lm tr) x0) : Evt (fun k => slices_Index_string.f k x0 x1) (slices_Index_string_v x0 x1) :=
  (Evt.loop (r' := fun r => r) (Evt.srch (L := (fun k i => slices_Index_string.l0 x0 x1 k i)) 0 x0.length (by have := h_x0; first | (have := this.1; omega) | omega) (fun (i0 : Nat) => (bif (sEq x1 (gt x0 (i0 : Int))) then (some (i0 : Int)) else none)) (fun i0 hs2 hi2 => by
  have hbn : x0.length ≤ 9223372036854775807 := (by have := h_x0; first | (have := this.1; omega) | omega)
  simp only [slices_Index_string.l0_s]
  exact Evt_t2 (int_lt hi2) (StE.chk (by first | exact idx_ok (by omega) | exact idx_ok (by have hq := len_eq (by assumption); omega) | exact idx_found (show (0 : Int) ≤ (i0 : Int) by simp_all) | exact cut_ok (by omega) | exact or_ok (idx_ok (by omega)) | (refine or1 (fun hz => pre_ok (by simp at hz; omega) (by omega) (by omega))) | exact pre_ok (by omega) (by omega) (by omega) | (simp_all [idxOk, cutOk, leB]; done) | (simp_all [idxOk, cutOk, leB]; omega) | (simp [idxOk, cutOk, leB] at *; omega) | (have hf0 := h_x0.1; simp only [leB, decide_eq_true_eq, List.length_append, List.length_cons, List.length_nil]; omega)) (StE.ifh (fun hc1 => (StE.ret _)) (fun hc1 => StE.next)))) (fun j hj => by
  simp only [slices_Index_string.l0_s]
  exact Evt.f (ge_lt hj) (Evt.self _))) (fun _ => rfl) (Evt.self _))
theorem strconv_FormatInt_ev (n : Int) (h0 : 0 ≤ n) (h1 : n ≤ 1000000) : Evt (fun k => strconv_FormatInt.f k n 10) (mkB (dgL n)) := by
  refine Evt.chk ?_ (Evt.ret (itoa_dg n h0))
  have e1 : decide ((-9223372036854775808 : Int) ≤ n) = true := decide_eq_true (by omega)
  have e2 : decide (n ≤ (9223372036854775807 : Int)) = true := decide_eq_true (by omega)
  rw [e1, e2]; rfl
theorem impl_dec_ev (n : Int) (h0 : 0 ≤ n) (h1 : n ≤ 1000000) : Evt (fun k => impl_dec.f k n) (mkB (dgL n)) := Evt.bind (strconv_FormatInt_ev n h0 h1) (Evt.self _)
theorem dec_any (v : Int) (h0 : -9223372036854775808 ≤ v) (h1 : v ≤ 9223372036854775807) : Evt (fun k => impl_dec.f k v) (mkB (Lib.itoa v)) := by
  refine Evt.bind (Evt.chk ?_ (Evt.self _)) (Evt.self _)
  rw [decide_eq_true h0, decide_eq_true h1]; rfl
theorem parse_bound {l : List UInt8} {v : Int} (h : Lib.parseIntB 64 l = .ok v) : -9223372036854775808 ≤ v ∧ v ≤ 9223372036854775807 := by
  unfold Lib.parseIntB at h
  cases l with
  | nil => cases h
  | cons c r =>
    simp only at h
    cases hp : Lib.parseUintB 64 (if c.toNat = 43 ∨ c.toNat = 45 then r else c :: r) with
    | ok u =>
      rw [hp] at h
      simp only at h
      by_cases hn : c.toNat = 45
      · simp only [hn, not_true_eq_false, false_and, if_false, true_and, if_true] at h
        by_cases hu : 2 ^ (64 - 1) < u
        · rw [if_pos hu] at h; cases h
        · rw [if_neg hu] at h
          injection h with h
          omega
      · simp only [hn, not_false_eq_true, true_and, false_and, if_false] at h
        by_cases hu : 2 ^ (64 - 1) ≤ u
        · rw [if_pos hu] at h; cases h
        · rw [if_neg hu] at h
          injection h with h
          omega
    | _ => rw [hp] at h; cases h
theorem number_ev (w : List UInt8) (hw : w.length ≤ 1048576) : ∃ n, Evt (fun k => impl_number.f k (mkB w)) n ∧ (0 ≤ n → dgL n = w) := by
  have hd : (mkB w).data.toList = w := by simp [mkB]
  have hp : ∀ r, piR w (Lib.parseIntB 64 w) = r → Evt (fun k => strconv_ParseInt.f k (mkB w) 10 64) r := by
    intro r hr
    refine Evt.chk ?_ (Evt.ret ?_)
    · rw [mkB_size]
      have : leB w.length 281474976710656 = true := leB_mk2 (by omega)
      rw [this]; rfl
    · rw [hd]; exact hr
  have hbad : ∀ z : Int, piR w (Lib.parseIntB 64 w) = (z, false) → ∃ n, Evt (fun k => impl_number.f k (mkB w)) n ∧ (0 ≤ n → dgL n = w) := fun z hz =>
    ⟨-1, Evt.bind (hp _ hz) (Evt.bind (Evt.f rfl (Evt.self _)) (Evt.t rfl (Evt.self _))), fun h => absurd h (by decide)⟩
  cases hq : Lib.parseIntB 64 w with
  | range => exact hbad (Lib.intSat 64 w) (by rw [hq]; rfl)
  | ok v =>
    have hb := parse_bound hq
    have hp' := hp (v, true) (by rw [hq]; rfl)
    unfold impl_number.f
    simp only [mkB_size]
    by_cases h10 : 10 < w.length
    · have e : decide (10 < (w.length : Int)) = true := by simp; omega
      rw [e]
      exact ⟨-1, Evt.bind hp' (Evt.bind (Evt.f rfl (Evt.self _)) (Evt.t rfl (Evt.self _))), fun h => absurd h (by decide)⟩
    · have e : decide (10 < (w.length : Int)) = false := by simp; omega
      rw [e]
      by_cases hs : Lib.itoa v = w
      · refine ⟨v, Evt.bind hp' (Evt.bind (Evt.t rfl (dec_any v hb.1 hb.2)) (Evt.f ?_ (Evt.self _))), fun h => ?_⟩
        · rw [hs, sEq_mk.2 rfl]; rfl
        · unfold Lib.itoa at hs
          rw [if_neg (by omega)] at hs
          exact hs
      · refine ⟨-1, Evt.bind hp' (Evt.bind (Evt.t rfl (dec_any v hb.1 hb.2)) (Evt.t ?_ (Evt.self _))), fun h => absurd h (by decide)⟩
        rw [sEq_mkf hs]; rfl
  | _ => exact hbad 0 (by rw [hq]; rfl)
theorem number_dg (x : Int) (h0 : 0 ≤ x) (h1 : x ≤ 9999999) : Evt (fun k => impl_number.f k (mkB (dgL x))) x := by
  have hq : Lib.parseIntB 64 (dgL x) = .ok x := by
    have := parse_dec x.toNat (by omega)
    rw [Int.toNat_of_nonneg h0] at this
    exact this
  have hd : (mkB (dgL x)).data.toList = dgL x := by simp [mkB]
  have hl := dg_l7 h1
  have hp : Evt (fun k => strconv_ParseInt.f k (mkB (dgL x)) 10 64) (x, true) := by
    refine Evt.chk ?_ (Evt.ret ?_)
    · rw [mkB_size]
      have : leB (dgL x).length 281474976710656 = true := leB_mk2 (by omega)
      rw [this]; rfl
    · rw [hd, hq]; rfl
  unfold impl_number.f
  simp only [mkB_size]
  have e : decide (10 < ((dgL x).length : Int)) = false := by simp; omega
  rw [e]
  refine Evt.bind hp (Evt.bind (Evt.t rfl (dec_any x (by omega) (by omega))) (Evt.f ?_ (Evt.self _)))
  have hs : Lib.itoa x = dgL x := by unfold Lib.itoa; rw [if_neg (by omega)]; rfl
  rw [hs, sEq_mk.2 rfl]; rfl
theorem index_at {c : UInt8} : ∀ (a b : List UInt8), c ∉ a → Lib.index (a ++ c :: b) [c] = a.length
  | [], b, _ => by rw [List.nil_append, Lib.index]; simp [List.isPrefixOf]
  | x :: a, b, h => by
    have hx : c ≠ x := fun e => h (by simp [e])
    have ih := index_at a b (fun e => h (List.mem_cons_of_mem _ e))
    have hp : ([c] : List UInt8).isPrefixOf (x :: (a ++ c :: b)) = false := by simp [List.isPrefixOf, hx]
    rw [List.cons_append, Lib.index, hp, ih]
    have : ((a.length : Int) == -1) = false := by simp
    simp only [this, Bool.false_eq_true, if_false, List.length_cons]
    omega
theorem cut_at {c : UInt8} {a b : List UInt8} (h : c ∉ a) : Lib.cut (a ++ [c] ++ b) [c] = (a, b, true) := by
  have e : a ++ [c] ++ b = a ++ c :: b := by simp
  unfold Lib.cut
  rw [e, index_at a b h, if_pos (by omega)]
  simp
theorem cut_sz (s sep : List UInt8) : (Lib.cut s sep).1.length ≤ s.length ∧ (Lib.cut s sep).2.1.length ≤ s.length := by
  unfold Lib.cut
  by_cases h : 0 ≤ Lib.index s sep
  · rw [if_pos h]; simp [List.length_take, List.length_drop]; omega
  · rw [if_neg h]; simp
theorem strings_Cut_ev (l sep : List UInt8) (h : l.length ≤ 1048576) : Evt (fun k => strings_Cut.f k (mkB l) (mkB sep)) (mkB (Lib.cut l sep).1, mkB (Lib.cut l sep).2.1, (Lib.cut l sep).2.2) := by
  refine Evt.chk (leB_mk2 (by rw [mkB_size]; omega)) (Evt.ret ?_)
  have h1 : (mkB l).data.toList = l := by simp [mkB]
  have h2 : (mkB sep).data.toList = sep := by simp [mkB]
  rw [h1, h2]; rfl
theorem numbers_loop (ps : List (List UInt8)) (ns : List Int) (hn : ps.length ≤ 1048577) (hl : ns.length = ps.length) (he : ∀ i (h : i < ps.length), Evt (fun k => impl_number.f k (mkB ps[i])) (ns[i]'(by omega))) : ∀ (d i : Nat), i + d = ps.length → Evt (fun k => impl_numbers.l0 (ps.map mkB) k (ns.take i) (i : Int)) ns
  | 0, i, hi => by
    refine Evt.s ?_
    simp only [impl_numbers.l0_s, List.length_map]
    exact Evt.f (ge_lt (by omega)) (Evt.ret (List.take_of_length_le (by omega)))
  | d + 1, i, hi => by
    have hlt : i < ps.length := by omega
    have hg : gt (ps.map mkB) (i : Int) = mkB ps[i] := by rw [gt_eq (by simpa using hlt)]; simp
    refine Evt.s ?_
    simp only [impl_numbers.l0_s, List.length_map, hg]
    refine Evt.t (int_lt hlt) (Evt.chk (idx_ok hlt) (Evt.bind (he i hlt) (Evt.chk (leB_mk2 (by simp; omega)) ?_)))
    rw [w64 hlt (by omega)]
    have et : ns.take i ++ [ns[i]'(by omega)] = ns.take (i + 1) := (List.take_succ_eq_append_getElem (by omega)).symm
    rw [et]
    exact numbers_loop ps ns hn hl he d (i + 1) (by omega)
theorem numbers_of (w : List UInt8) (c : UInt8) (ns : List Int) (hw : w.length ≤ 1048576) (hl : ns.length = (cutA c [] w).length) (he : ∀ i (h : i < (cutA c [] w).length), Evt (fun k => impl_number.f k (mkB (cutA c [] w)[i])) (ns[i]'(by omega))) : Evt (fun k => impl_numbers.f k (mkB w) (mkB [c])) ns := by
  have hk := cutA_len c w []
  exact Evt.bind (Evt.bind (strings_Split_ev w c hw) (numbers_loop (cutA c [] w) ns (by omega) hl he (cutA c [] w).length 0 (by omega))) (Evt.self _)
theorem numbers_all : ∀ ps : List (List UInt8), (∀ p ∈ ps, p.length ≤ 1048576) → ∃ ns : List Int, ∃ hl : ns.length = ps.length, ∀ i (h : i < ps.length), Evt (fun k => impl_number.f k (mkB ps[i])) (ns[i]'(by omega))
  | [], _ => ⟨[], rfl, fun i h => by simp at h⟩
  | p :: ps, hp => by
    obtain ⟨n, hn, _⟩ := number_ev p (hp p (by simp))
    obtain ⟨ns, hl, he⟩ := numbers_all ps (fun q hq => hp q (by simp [hq]))
    refine ⟨n :: ns, by simp [hl], fun i h => ?_⟩
    cases i with
    | zero => exact hn
    | succ i => exact he i (by simpa using h)
theorem numbers_ev (w : List UInt8) (c : UInt8) (hw : w.length ≤ 1048575) : ∃ ns : List Int, ns.length ≤ 1048576 ∧ Evt (fun k => impl_numbers.f k (mkB w) (mkB [c])) ns := by
  obtain ⟨ns, hl, he⟩ := numbers_all (cutA c [] w) (fun p hp => by have := cutA_le c w [] p hp; simp at this; omega)
  have hk := cutA_len c w []
  exact ⟨ns, by omega, numbers_of w c ns (by omega) hl he⟩
theorem numbers_dg (c : UInt8) (hc : ¬ isDg c) (xs : List Int) (h : xs ≠ []) (hx : ∀ x ∈ xs, 0 ≤ x ∧ x ≤ 999) (hl : (Lib.join (xs.map dgL) [c]).length ≤ 1048576) : Evt (fun k => impl_numbers.f k (mkB (Lib.join (xs.map dgL) [c])) (mkB [c])) xs := by
  refine numbers_of _ c xs hl (by rw [cut_dgs hc xs h]; simp) (fun i hi => ?_)
  have hi' : i < xs.length := by rw [cut_dgs hc xs h] at hi; simpa using hi
  have e : (cutA c [] (Lib.join (xs.map dgL) [c]))[i] = dgL xs[i] := by simp only [cut_dgs hc xs h, List.getElem_map]
  rw [e]
  have := hx _ (List.getElem_mem hi')
  exact number_dg _ this.1 (by omega)
def impl_within_v (x0 : Int) (x1 : Int) (x2 : Int) : Bool := ((decide (x1 ≤ x0)) && (decide (x0 ≤ x2)))
theorem impl_within_ev (x0 : Int) (x1 : Int) (x2 : Int)  : Evt (fun k => impl_within.f k x0 x1 x2) (impl_within_v x0 x1 x2) :=
  (Evt.self _)
def impl_isKey_v (x0 : Int) : Bool := (impl_within_v x0 1 999)
theorem impl_isKey_ev (x0 : Int)  : Evt (fun k => impl_isKey.f k x0) (impl_isKey_v x0) :=
  (Evt.bind (impl_within_ev x0 1 999) (Evt.self _))
def impl_areKeys_1_v (x0 : Int) : Bool := (!(impl_isKey_v x0))
theorem impl_areKeys_1_ev (x0 : Int)  : Evt (fun k => impl_areKeys_1.f k x0) (impl_areKeys_1_v x0) :=
  (Evt.bind (impl_isKey_ev x0) (Evt.self _))
def slices_IndexFunc_int64_v (x0 : List Int) : Int := (onO ((List.range' 0 (x0.length - 0)).findSome? (fun (i0 : Nat) => (bif (impl_areKeys_1_v (gt x0 (i0 : Int))) then (some (i0 : Int)) else none))) (fun r => r) (-1))
theorem slices_IndexFunc_int64_ev (x0 : List Int) (h_x0 : (Lm tr) x0) : Evt (fun k => slices_IndexFunc_int64.f k x0) (slices_IndexFunc_int64_v x0) :=
  (Evt.loop (r' := fun r => r) (Evt.srch (L := (fun k i => slices_IndexFunc_int64.l0 x0 k i)) 0 x0.length (by have := h_x0; first | (have := this.1; omega) | omega) (fun (i0 : Nat) => (bif (impl_areKeys_1_v (gt x0 (i0 : Int))) then (some (i0 : Int)) else none)) (fun i0 hs2 hi2 => by
  have hbn : x0.length ≤ 9223372036854775807 := (by have := h_x0; first | (have := this.1; omega) | omega)
  simp only [slices_IndexFunc_int64.l0_s]
  exact Evt_t2 (int_lt hi2) (StE.chk (by first | exact idx_ok (by omega) | exact idx_ok (by have hq := len_eq (by assumption); omega) | exact idx_found (show (0 : Int) ≤ (i0 : Int) by simp_all) | exact cut_ok (by omega) | exact or_ok (idx_ok (by omega)) | (refine or1 (fun hz => pre_ok (by simp at hz; omega) (by omega) (by omega))) | exact pre_ok (by omega) (by omega) (by omega) | (simp_all [idxOk, cutOk, leB]; done) | (simp_all [idxOk, cutOk, leB]; omega) | (simp [idxOk, cutOk, leB] at *; omega) | (have hf0 := h_x0.1; simp only [leB, decide_eq_true_eq, List.length_append, List.length_cons, List.length_nil]; omega)) (StE.bind (impl_areKeys_1_ev (gt x0 (i0 : Int))) (StE.ifh (fun hc1 => (StE.ret _)) (fun hc1 => StE.next))))) (fun j hj => by
  simp only [slices_IndexFunc_int64.l0_s]
  exact Evt.f (ge_lt hj) (Evt.self _))) (fun _ => rfl) (Evt.self _))
def slices_ContainsFunc_int64_v (x0 : List Int) : Bool := (decide (0 ≤ (slices_IndexFunc_int64_v x0)))
theorem slices_ContainsFunc_int64_ev (x0 : List Int) (h_x0 : (Lm tr) x0) : Evt (fun k => slices_ContainsFunc_int64.f k x0) (slices_ContainsFunc_int64_v x0) :=
  (Evt.bind (slices_IndexFunc_int64_ev x0 (h_x0)) (Evt.self _))
theorem slices_ContainsFunc_int64_any (x0 : List Int) : slices_ContainsFunc_int64_v x0 = (List.range' 0 (x0.length - 0)).any (fun (i0 : Nat) => (impl_areKeys_1_v (gt x0 (i0 : Int)))) := idx_any _ _
def impl_areKeys_v (x0 : List Int) : Bool := (!(slices_ContainsFunc_int64_v x0))
theorem impl_areKeys_ev (x0 : List Int) (h_x0 : (Lm tr) x0) : Evt (fun k => impl_areKeys.f k x0) (impl_areKeys_v x0) :=
  (Evt.bind (slices_ContainsFunc_int64_ev x0 (h_x0)) (Evt.self _))
def impl_isHeight_v (x0 : Int) : Bool := (impl_within_v x0 0 999)
theorem impl_isHeight_ev (x0 : Int)  : Evt (fun k => impl_isHeight.f k x0) (impl_isHeight_v x0) :=
  (Evt.bind (impl_within_ev x0 0 999) (Evt.self _))
def impl_isRising_v (x0 : List Int) : Bool := (onO ((List.range' 1 (x0.length - 1)).findSome? (fun (i0 : Nat) => (bif (decide ((gt x0 (i0 : Int)) ≤ (gt x0 (wrap64 ((i0 : Int) - 1))))) then (some false) else none))) (fun r => r) true)
theorem impl_isRising_ev (x0 : List Int) (h_x0 : (Lm tr) x0) : Evt (fun k => impl_isRising.f k x0) (impl_isRising_v x0) :=
  (Evt.loop (r' := fun r => r) (Evt.srch (L := (fun k i => impl_isRising.l0 x0 k i)) 1 x0.length (by have := h_x0; first | (have := this.1; omega) | omega) (fun (i0 : Nat) => (bif (decide ((gt x0 (i0 : Int)) ≤ (gt x0 (wrap64 ((i0 : Int) - 1))))) then (some false) else none)) (fun i0 hs2 hi2 => by
  have hbn : x0.length ≤ 9223372036854775807 := (by have := h_x0; first | (have := this.1; omega) | omega)
  simp only [impl_isRising.l0_s]
  exact Evt_t2 (int_lt hi2) (StE.chk (by first | exact idx_ok (by omega) | exact idx_ok (by have hq := len_eq (by assumption); omega) | exact idx_found (show (0 : Int) ≤ (i0 : Int) by simp_all) | exact cut_ok (by omega) | exact or_ok (idx_ok (by omega)) | (refine or1 (fun hz => pre_ok (by simp at hz; omega) (by omega) (by omega))) | exact pre_ok (by omega) (by omega) (by omega) | (simp_all [idxOk, cutOk, leB]; done) | (simp_all [idxOk, cutOk, leB]; omega) | (simp [idxOk, cutOk, leB] at *; omega) | (have hf0 := h_x0.1; simp only [leB, decide_eq_true_eq, List.length_append, List.length_cons, List.length_nil]; omega)) (StE.chk (by first | exact idx_ok (by omega) | exact idx_ok (by have hq := len_eq (by assumption); omega) | exact idx_found (show (0 : Int) ≤ (wrap64 ((i0 : Int) - 1)) by simp_all) | exact cut_ok (by omega) | exact or_ok (idx_ok (by omega)) | (refine or1 (fun hz => pre_ok (by simp at hz; omega) (by omega) (by omega))) | exact pre_ok (by omega) (by omega) (by omega) | (simp_all [idxOk, cutOk, leB]; done) | (simp_all [idxOk, cutOk, leB]; omega) | (simp [idxOk, cutOk, leB] at *; omega) | (have hf0 := h_x0.1; simp only [leB, decide_eq_true_eq, List.length_append, List.length_cons, List.length_nil]; omega)) (StE.ifh (fun hc1 => (StE.ret _)) (fun hc1 => StE.next))))) (fun j hj => by
  simp only [impl_isRising.l0_s]
  exact Evt.f (ge_lt hj) (Evt.self _))) (fun _ => rfl) (Evt.self _))
def impl_RuleFault_v (x0 : Rule) : Int := (bif !(impl_within_v (x0.fKeys.length : Int) 1 3) then 2 else (bif (((!(impl_areKeys_v x0.fKeys)) || (!(bif (!(!(impl_areKeys_v x0.fKeys))) then (impl_within_v x0.fNeed 1 (x0.fKeys.length : Int)) else default))) || (!(bif (!((!(impl_areKeys_v x0.fKeys)) || (!(bif (!(!(impl_areKeys_v x0.fKeys))) then (impl_within_v x0.fNeed 1 (x0.fKeys.length : Int)) else default)))) then (impl_isHeight_v x0.fAfter) else default))) then 3 else (bif !(impl_isRising_v x0.fKeys) then 1 else 0)))
theorem impl_RuleFault_ev (x0 : Rule) (h_x0 : smRule x0) : Evt (fun k => impl_RuleFault.f k x0) (impl_RuleFault_v x0) :=
  (Evt.bind (impl_within_ev (x0.fKeys.length : Int) 1 3) (Evt.ifh (fun hc2 => (Evt.self _)) (fun hc2 => (Evt.bind (impl_areKeys_ev x0.fKeys (h_x0.1)) (Evt.bind (Evt.ifh (fun _ => (impl_within_ev x0.fNeed 1 (x0.fKeys.length : Int))) (fun _ => Evt.self _)) (Evt.bind (Evt.ifh (fun _ => (impl_isHeight_ev x0.fAfter)) (fun _ => Evt.self _)) (Evt.ifh (fun hc1 => (Evt.self _)) (fun hc1 => (Evt.bind (impl_isRising_ev x0.fKeys (h_x0.1)) (Evt.ifh (fun hc0 => (Evt.self _)) (fun hc0 => (Evt.self _))))))))))))
theorem ruleFault_same (x0 : Rule) : impl_RuleFault_v x0 = spec_l2Fault_v x0 := by
  simp only [impl_RuleFault_v, spec_l2Fault_v, impl_areKeys_v, slices_ContainsFunc_int64_any, impl_areKeys_1_v, impl_isKey_v, spec_l1Key_v, impl_within_v, spec_l1In_v, impl_isHeight_v, spec_l2Height_v, impl_isRising_v, found_any]
  generalize (List.range' 0 (x0.fKeys.length - 0)).any _ = a
  generalize (List.range' 1 (x0.fKeys.length - 1)).any _ = b
  generalize (decide (1 ≤ x0.fNeed) && decide (x0.fNeed ≤ (x0.fKeys.length : Int))) = c
  generalize (decide (0 ≤ x0.fAfter) && decide (x0.fAfter ≤ 999)) = d
  generalize (decide (1 ≤ (x0.fKeys.length : Int)) && decide ((x0.fKeys.length : Int) ≤ 3)) = e
  cases a <;> cases b <;> cases c <;> cases d <;> cases e <;> rfl
theorem strings_Join_ev (xs : List (List UInt8)) (sep : List UInt8) (hn : xs.length ≤ 1000000) (hl : (Lib.join xs sep).length ≤ 1000000) : Evt (fun k => strings_Join.f k (xs.map mkB) (mkB sep)) (mkB (Lib.join xs sep)) := by
  have e1 : (xs.map mkB).map (·.data.toList) = xs := by rw [List.map_map]; simp [mkB, Function.comp_def]
  have e2 : (mkB sep).data.toList = sep := by simp [mkB]
  unfold strings_Join.f
  rw [e1, e2]
  refine Evt.chk ?_ (Evt.self _)
  rw [Bool.and_eq_true]
  exact ⟨decide_eq_true (by rw [List.length_map]; omega), decide_eq_true (by omega)⟩
theorem impl_joined_ev (xs : List Int) (sep : List UInt8) (hn : xs.length ≤ 1000) (hk : ∀ x ∈ xs, 0 ≤ x ∧ x ≤ 999) (hl : (Lib.join (xs.map dgL) sep).length ≤ 1000000) : Evt (fun k => impl_joined.f k xs (mkB sep)) (mkB (Lib.join (xs.map dgL) sep)) := by
  have h1 := Evt.gatherL (L := fun k ac i => impl_joined.l0 xs k ac i) xs.length (by omega) (fun ac i => ac ++ [mkB (dgL (gt xs (i : Int)))]) (fun i hi a ha => by simp; omega) (fun i hi a ha o hg => by
    have hx := hk _ (gt_mem hi)
    simp only [impl_joined.l0_s]
    refine Evt.t (int_lt hi) (Evt.chk (idx_ok hi) (Evt.bind (impl_dec_ev (gt xs (i : Int)) (by omega) (by omega)) (Evt.chk ?_ hg)))
    refine decide_eq_true ?_
    simp only [List.length_cons, List.length_nil]; omega) (fun i a hi => by
    simp only [impl_joined.l0_s]
    exact Evt.f (ge_lt hi) (Evt.self _))
  have e := range_foldl xs (fun (ac : List ByteArray) x => ac ++ [mkB (dgL x)]) []
  have e2 := fold_map (fun x => mkB (dgL x)) xs []
  have h2 : Evt (fun k => impl_joined.l0 xs k [] 0) ((xs.map dgL).map mkB) := h1.to (e.trans (e2.trans (by rw [List.nil_append, List.map_map]; rfl)))
  refine Evt.bind h2 (Evt.bind (strings_Join_ev (xs.map dgL) sep (by rw [List.length_map]; omega) hl) (Evt.self _))
theorem impl_ruleText_ev (r : Rule) (bl : List UInt8) (hb : bl.length ≤ 8) (hr : RuleOK r) : Evt (fun k => impl_ruleText.f k r (mkB bl)) (mkB (ruleL r bl)) := by
  have hj := join3 r.fKeys hr.n1 hr.n3 hr.key
  have hd := dg3 r.fNeed (by have := hr.need; omega) (by have := hr.need; omega)
  have hf := dg3 r.fAfter hr.after.1 hr.after.2
  have c1 : (⟨#[111, 102]⟩ : ByteArray) = mkB [111, 102] := rfl
  have c2 : (⟨#[44]⟩ : ByteArray) = mkB [44] := rfl
  have c3 : (⟨#[97, 102, 116, 101, 114]⟩ : ByteArray) = mkB [97, 102, 116, 101, 114] := rfl
  unfold impl_ruleText.f
  simp only [c1, c2, c3]
  refine Evt.bind (impl_dec_ev r.fNeed (by have := hr.need; omega) (by have := hr.need; omega)) ?_
  simp only [mkB_append, mkB_size, List.length_append, List.length_cons, List.length_nil]
  refine Evt.chk (leB_mk (by omega)) (Evt.chk (leB_mk (by omega)) (Evt.chk (leB_mk (by omega)) (Evt.bind (impl_joined_ev r.fKeys [44] (by have := hr.n3; omega) (fun x hx => by have := hr.key x hx; omega) (by omega)) ?_)))
  simp only [mkB_append, mkB_size, List.length_append, List.length_cons, List.length_nil]
  refine Evt.chk (leB_mk (by omega)) ?_
  unfold ruleL
  cases ha : r.fAfter != 0
  · refine Evt.f rfl (Evt.ret ?_)
    simp [List.append_assoc]
  · refine Evt.t rfl (Evt.chk (leB_mk (by omega)) (Evt.chk (leB_mk (by omega)) (Evt.bind (impl_dec_ev r.fAfter hr.after.1 (by have := hr.after.2; omega)) ?_)))
    simp only [mkB_append, mkB_size, List.length_append, List.length_cons, List.length_nil]
    refine Evt.chk (leB_mk (by omega)) (Evt.chk (leB_mk (by omega)) (Evt.ret ?_))
    simp [List.append_assoc]
theorem rr_end (l : List UInt8) (c : UInt8) (ns : List Int) (n a : Int) (hns : ns.length ≤ 1048576) : ∃ r, Evt (fun k => ((impl_RuleFault.f k (⟨ns, n, a⟩ : Rule)).bind fun t1348 => ((bif (!(t1348 != 0)) then impl_ruleText.f k (⟨ns, n, a⟩ : Rule) (mkB [c]) else some default).bind fun t1350 => (bif ((t1348 != 0) || (!sEq t1350 (mkB l))) then some ((⟨([] : List Int), 0, 0⟩ : Rule), false) else some ((⟨ns, n, a⟩ : Rule), true))))) r ∧ (r.2 = true → spec_l2Fault_v r.1 = 0 ∧ ruleL r.1 [c] = l) ∧ (spec_l2Fault_v ⟨ns, n, a⟩ = 0 → ruleL ⟨ns, n, a⟩ [c] = l → r = (⟨ns, n, a⟩, true)) := by
  have hsm : smRule ⟨ns, n, a⟩ := ⟨⟨hns, fun _ _ => trivial⟩, trivial, trivial⟩
  have ef := impl_RuleFault_ev ⟨ns, n, a⟩ hsm
  rw [ruleFault_same] at ef
  cases hf : spec_l2Fault_v ⟨ns, n, a⟩ != 0
  · have hok := rule_ok _ hf
    have et := impl_ruleText_ev ⟨ns, n, a⟩ [c] (by simp) hok
    by_cases hq : ruleL ⟨ns, n, a⟩ [c] = l
    · refine ⟨(⟨ns, n, a⟩, true), Evt.bind ef (Evt.bind (Evt.t (by rw [hf]; rfl) et) (Evt.f ?_ (Evt.self _))), fun _ => ⟨by simpa using hf, hq⟩, fun _ _ => rfl⟩
      rw [hf, hq, neg_self]; rfl
    · refine ⟨(zRule, false), Evt.bind ef (Evt.bind (Evt.t (by rw [hf]; rfl) et) (Evt.t ?_ (Evt.self _))), fun h => (by cases h), fun _ h => absurd h hq⟩
      rw [hf, sEq_mkf hq]; rfl
  · refine ⟨(zRule, false), Evt.bind ef (Evt.bind (Evt.f (by rw [hf]; rfl) (Evt.self _)) (Evt.t (by rw [hf]; rfl) (Evt.self _))), fun h => (by cases h), fun h => ?_⟩
    rw [h] at hf; cases hf
theorem readRule_ev (l : List UInt8) (c : UInt8) (hl : l.length ≤ 1048576) : ∃ r, Evt (fun k => impl_readRule.f k (mkB l) (mkB [c])) r ∧ (r.2 = true → spec_l2Fault_v r.1 = 0 ∧ ruleL r.1 [c] = l) := by
  have c2 : (⟨#[44]⟩ : ByteArray) = mkB [44] := rfl
  unfold impl_readRule.f
  simp only [c2, mkB_size]
  have hs := strings_Split_ev l c hl
  by_cases hbad : 300 < l.length ∨ ((cutA c [] l).length ≠ 3 ∧ (cutA c [] l).length ≠ 5)
  · refine ⟨(zRule, false), Evt.bind hs (Evt.t ?_ (Evt.self _)), fun h => by cases h⟩
    rw [Bool.or_eq_true, Bool.and_eq_true, decide_eq_true_eq, List.length_map, bne_iff_ne, bne_iff_ne]
    rcases hbad with h | h
    · exact .inl (by omega)
    · exact .inr (by omega)
  · have hlen : decide (300 < (l.length : Int)) = false := by simp; omega
    by_cases h3 : (cutA c [] l).length = 3
    · obtain ⟨w0, w1, w2, hw⟩ := three h3
      have hsz := congrArg List.length (three_sz hw)
      simp only [List.length_append, List.length_cons, List.length_nil] at hsz
      rw [hw] at hs
      obtain ⟨n1, e1, _⟩ := number_ev w0 (by omega)
      obtain ⟨ns, hns, e2⟩ := numbers_ev w2 44 (by omega)
      obtain ⟨r, e3, p, _⟩ := rr_end l c ns n1 0 hns
      exact ⟨r, Evt.bind hs (Evt.f (by rw [hlen]; rfl) (Evt.chk rfl (Evt.chk rfl (Evt.bind e1 (Evt.bind e2 (Evt.bind (Evt.f rfl (Evt.self _)) e3)))))), p⟩
    · obtain ⟨w0, w1, w2, w3, w4, hw⟩ := five (ws := cutA c [] l) (by omega)
      have hsz := congrArg List.length (five_sz hw)
      simp only [List.length_append, List.length_cons, List.length_nil] at hsz
      rw [hw] at hs
      obtain ⟨n1, e1, _⟩ := number_ev w0 (by omega)
      obtain ⟨ns, hns, e2⟩ := numbers_ev w2 44 (by omega)
      obtain ⟨n4, e4, _⟩ := number_ev w4 (by omega)
      obtain ⟨r, e3, p, _⟩ := rr_end l c ns n1 n4 hns
      exact ⟨r, Evt.bind hs (Evt.f (by rw [hlen]; rfl) (Evt.chk rfl (Evt.chk rfl (Evt.bind e1 (Evt.bind e2 (Evt.bind (Evt.t rfl (Evt.chk rfl (Evt.bind e4 (Evt.self _)))) e3)))))), p⟩
theorem readRule_of (r : Rule) (c : UInt8) (hc : c = 32 ∨ c = 95) (hf : spec_l2Fault_v r = 0) : Evt (fun k => impl_readRule.f k (mkB (ruleL r [c])) (mkB [c])) (r, true) := by
  have hf' : (spec_l2Fault_v r != 0) = false := by rw [hf]; rfl
  have hr := rule_ok r hf'
  have hl := ruleL_len r c hr
  have hkl := keys_len hr
  have hn := hr.need; have ha := hr.after
  have c2 : (⟨#[44]⟩ : ByteArray) = mkB [44] := rfl
  unfold impl_readRule.f
  simp only [c2, mkB_size]
  have hs := strings_Split_ev (ruleL r [c]) c (by omega)
  rw [rule_cut r c hc] at hs
  have hlen : decide (300 < ((ruleL r [c]).length : Int)) = false := by simp; omega
  have e1 := number_dg r.fNeed (by omega) (by omega)
  have e2 := numbers_dg 44 nodg r.fKeys (keys_ne hr) (fun x hx => by have := hr.key x hx; omega) (by omega)
  obtain ⟨z, e3, _, p⟩ := rr_end (ruleL r [c]) c r.fKeys r.fNeed r.fAfter (by have := hr.n3; omega)
  have hz : z = (r, true) := p hf rfl
  rw [hz] at e3
  unfold ruleWs at hs
  cases hq : r.fAfter != 0
  · rw [hq] at hs
    have h0 : r.fAfter = 0 := by simpa using hq
    refine Evt.bind hs (Evt.f (by rw [hlen]; rfl) (Evt.chk rfl (Evt.chk rfl (Evt.bind e1 (Evt.bind e2 (Evt.bind (Evt.f rfl (Evt.self _)) ?_))))))
    rw [h0] at e3; exact e3
  · rw [hq] at hs
    exact Evt.bind hs (Evt.f (by rw [hlen]; rfl) (Evt.chk rfl (Evt.chk rfl (Evt.bind e1 (Evt.bind e2 (Evt.bind (Evt.t rfl (Evt.chk rfl (Evt.bind (number_dg r.fAfter (by omega) (by omega)) (Evt.self _)))) e3))))))
theorem readOut_ev (l : List UInt8) (h : l.length ≤ 1048576) : ∃ r, Evt (fun k => impl_readOut.f k (mkB l)) r ∧ (r.2 = true → spec_l2Fault_v r.1.fRule = 0) := by
  have c1 : (⟨#[61]⟩ : ByteArray) = mkB [61] := rfl
  have c2 : (⟨#[95]⟩ : ByteArray) = mkB [95] := rfl
  have hz := cut_sz l [61]
  obtain ⟨r, er, q⟩ := readRule_ev (Lib.cut l [61]).2.1 95 (by omega)
  obtain ⟨n, en, _⟩ := number_ev (Lib.cut l [61]).1 (by omega)
  unfold impl_readOut.f
  simp only [c1, c2]
  exact ⟨(⟨n, ⟨r.1.fKeys, r.1.fNeed, r.1.fAfter⟩⟩, r.2), Evt.bind (strings_Cut_ev l [61] h) (Evt.bind er (Evt.bind en (Evt.self _))), fun h => (q h).1⟩
theorem readOut_of (o : Out) (hx : (1 ≤ o.fValue ∧ o.fValue ≤ 1000000) ∧ spec_l2Fault_v o.fRule = 0) : Evt (fun k => impl_readOut.f k (mkB (outL o))) (o, true) := by
  have c1 : (⟨#[61]⟩ : ByteArray) = mkB [61] := rfl
  have c2 : (⟨#[95]⟩ : ByteArray) = mkB [95] := rfl
  have hs := strings_Cut_ev (outL o) [61] (by have := outL_len hx; omega)
  have hc : Lib.cut (outL o) [61] = (dgL o.fValue, ruleL o.fRule [95], true) := cut_at (dg_no nodg _)
  rw [hc] at hs
  unfold impl_readOut.f
  simp only [c1, c2]
  exact Evt.bind hs (Evt.bind (readRule_of o.fRule 95 (.inr rfl) hx.2) (Evt.bind (number_dg o.fValue (by omega) (by omega)) (Evt.self _)))
def impl_TxFault_1_v (x0 : Int) : Bool := ((decide (x0 < 1)) || (decide (4 < x0)))
theorem impl_TxFault_1_ev (x0 : Int)  : Evt (fun k => impl_TxFault_1.f k x0) (impl_TxFault_1_v x0) :=
  (Evt.self _)
def impl_isId_v (x0 : Int) : Bool := (impl_within_v x0 1 60)
theorem impl_isId_ev (x0 : Int)  : Evt (fun k => impl_isId.f k x0) (impl_isId_v x0) :=
  (Evt.bind (impl_within_ev x0 1 60) (Evt.self _))
def impl_isRef_v (x0 : Ref) : Bool := ((impl_isId_v x0.fTx) && (bif (impl_isId_v x0.fTx) then (impl_within_v x0.fAt 0 3) else default))
theorem impl_isRef_ev (x0 : Ref)  : Evt (fun k => impl_isRef.f k x0) (impl_isRef_v x0) :=
  (Evt.bind (impl_isId_ev x0.fTx) (Evt.bind (Evt.ifh (fun _ => (impl_within_ev x0.fAt 0 3)) (fun _ => Evt.self _)) (Evt.self _)))
def slices_Index_impl_Ref_v (x0 : List Ref) (x1 : Ref) : Int := (onO ((List.range' 0 (x0.length - 0)).findSome? (fun (i0 : Nat) => (bif ((x1.fTx == ((gt x0 (i0 : Int)).fTx)) && (x1.fAt == ((gt x0 (i0 : Int)).fAt))) then (some (i0 : Int)) else none))) (fun r => r) (-1))
theorem slices_Index_impl_Ref_ev (x0 : List Ref) (x1 : Ref) (h_x0 : (Lm smRef) x0) : Evt (fun k => slices_Index_impl_Ref.f k x0 x1) (slices_Index_impl_Ref_v x0 x1) :=
  (Evt.loop (r' := fun r => r) (Evt.srch (L := (fun k i => slices_Index_impl_Ref.l0 x0 x1 k i)) 0 x0.length (by have := h_x0; first | (have := this.1; omega) | omega) (fun (i0 : Nat) => (bif ((x1.fTx == ((gt x0 (i0 : Int)).fTx)) && (x1.fAt == ((gt x0 (i0 : Int)).fAt))) then (some (i0 : Int)) else none)) (fun i0 hs2 hi2 => by
  have hbn : x0.length ≤ 9223372036854775807 := (by have := h_x0; first | (have := this.1; omega) | omega)
  simp only [slices_Index_impl_Ref.l0_s]
  exact Evt_t2 (int_lt hi2) (StE.chk (by first | exact idx_ok (by omega) | exact idx_ok (by have hq := len_eq (by assumption); omega) | exact idx_found (show (0 : Int) ≤ (i0 : Int) by simp_all) | exact cut_ok (by omega) | exact or_ok (idx_ok (by omega)) | (refine or1 (fun hz => pre_ok (by simp at hz; omega) (by omega) (by omega))) | exact pre_ok (by omega) (by omega) (by omega) | (simp_all [idxOk, cutOk, leB]; done) | (simp_all [idxOk, cutOk, leB]; omega) | (simp [idxOk, cutOk, leB] at *; omega) | (have hf0 := h_x0.1; simp only [leB, decide_eq_true_eq, List.length_append, List.length_cons, List.length_nil]; omega)) (StE.ifh (fun hc1 => (StE.ret _)) (fun hc1 => StE.next)))) (fun j hj => by
  simp only [slices_Index_impl_Ref.l0_s]
  exact Evt.f (ge_lt hj) (Evt.self _))) (fun _ => rfl) (Evt.self _))
def slices_Contains_impl_Ref_v (x0 : List Ref) (x1 : Ref) : Bool := (decide (0 ≤ (slices_Index_impl_Ref_v x0 x1)))
theorem slices_Contains_impl_Ref_ev (x0 : List Ref) (x1 : Ref) (h_x0 : (Lm smRef) x0) : Evt (fun k => slices_Contains_impl_Ref.f k x0 x1) (slices_Contains_impl_Ref_v x0 x1) :=
  (Evt.bind (slices_Index_impl_Ref_ev x0 x1 (h_x0)) (Evt.self _))
theorem slices_Contains_impl_Ref_any (x0 : List Ref) (x1 : Ref) : slices_Contains_impl_Ref_v x0 x1 = (List.range' 0 (x0.length - 0)).any (fun (i0 : Nat) => ((x1.fTx == ((gt x0 (i0 : Int)).fTx)) && (x1.fAt == ((gt x0 (i0 : Int)).fAt)))) := idx_any _ _
def impl_outFault_v (x0 : Out) : Int := (bif !(impl_within_v x0.fValue 1 1000000) then 3 else (impl_RuleFault_v x0.fRule))
theorem impl_outFault_ev (x0 : Out) (h_x0 : smOut x0) : Evt (fun k => impl_outFault.f k x0) (impl_outFault_v x0) :=
  (Evt.bind (impl_within_ev x0.fValue 1 1000000) (Evt.ifh (fun hc0 => (Evt.self _)) (fun hc0 => (Evt.bind (impl_RuleFault_ev x0.fRule (h_x0.2)) (Evt.self _)))))
def impl_TxFault_v (x0 : Tx) : Int := (bif ((!(impl_within_v x0.fKind 0 2)) || ((x0.fKind == 0) != (x0.fMember == 0))) then 1 else (bif ((x0.fMember != 0) && (!(bif (x0.fMember != 0) then (impl_isKey_v x0.fMember) else default))) then 3 else (bif ((impl_TxFault_1_v (x0.fIns.length : Int)) || (bif (!(impl_TxFault_1_v (x0.fIns.length : Int))) then (impl_TxFault_1_v (x0.fOuts.length : Int)) else default)) then 2 else (onO ((List.range' 0 (x0.fIns.length - 0)).findSome? (fun (i0 : Nat) => (bif !(impl_isRef_v (gt x0.fIns (i0 : Int))) then (some 3) else (bif (slices_Contains_impl_Ref_v (x0.fIns.take ((i0 : Int)).toNat) (gt x0.fIns (i0 : Int))) then (some 7) else none)))) (fun r => r) (onO ((List.range' 0 (x0.fOuts.length - 0)).findSome? (fun (i3 : Nat) => (bif ((impl_outFault_v (gt x0.fOuts (i3 : Int))) != 0) then (some (impl_outFault_v (gt x0.fOuts (i3 : Int)))) else none))) (fun r => r) (bif ((x0.fKind == 1) && (decide (((gt x0.fOuts (0 : Int)).fValue) < 100))) then 8 else 0))))))
theorem impl_TxFault_ev (x0 : Tx) (h_x0 : smTx x0) : Evt (fun k => impl_TxFault.f k x0) (impl_TxFault_v x0) :=
  (Evt.bind (impl_within_ev x0.fKind 0 2) (Evt.ifh (fun hc8 => (Evt.self _)) (fun hc8 => (Evt.bind (Evt.ifh (fun _ => (impl_isKey_ev x0.fMember)) (fun _ => Evt.self _)) (Evt.ifh (fun hc7 => (Evt.self _)) (fun hc7 => (Evt.bind (impl_TxFault_1_ev (x0.fIns.length : Int)) (Evt.bind (Evt.ifh (fun _ => (impl_TxFault_1_ev (x0.fOuts.length : Int))) (fun _ => Evt.self _)) (Evt.ifh (fun hc6 => (Evt.self _)) (fun hc6 => (Evt.loop (r' := fun r => r) (Evt.srch (L := (fun k i => impl_TxFault.l0 x0 k i)) 0 x0.fIns.length (by have := h_x0.2.2.1; first | (have := this.1; omega) | omega) (fun (i0 : Nat) => (bif !(impl_isRef_v (gt x0.fIns (i0 : Int))) then (some 3) else (bif (slices_Contains_impl_Ref_v (x0.fIns.take ((i0 : Int)).toNat) (gt x0.fIns (i0 : Int))) then (some 7) else none))) (fun i0 hs3 hi3 => by
  have hbn : x0.fIns.length ≤ 9223372036854775807 := (by have := h_x0.2.2.1; first | (have := this.1; omega) | omega)
  simp only [impl_TxFault.l0_s]
  exact Evt_t2 (int_lt hi3) (StE.chk (by first | exact idx_ok (by omega) | exact idx_ok (by have hq := len_eq (by assumption); omega) | exact idx_found (show (0 : Int) ≤ (i0 : Int) by simp_all) | exact cut_ok (by omega) | exact or_ok (idx_ok (by omega)) | (refine or1 (fun hz => pre_ok (by simp at hz; omega) (by omega) (by omega))) | exact pre_ok (by omega) (by omega) (by omega) | (simp_all [idxOk, cutOk, leB]; done) | (simp_all [idxOk, cutOk, leB]; omega) | (simp [idxOk, cutOk, leB] at *; omega) | (simp_all [idxOk, impl_TxFault_1_v]; omega) | (have hf0 := h_x0.2.2.1.1; have hf1 := h_x0.2.2.2.1; simp only [leB, decide_eq_true_eq, List.length_append, List.length_cons, List.length_nil]; omega)) (StE.bind (impl_isRef_ev (gt x0.fIns (i0 : Int))) (StE.ifh (fun hc2 => (StE.ret _)) (fun hc2 => (StE.chk (by first | exact idx_ok (by omega) | exact idx_ok (by have hq := len_eq (by assumption); omega) | exact idx_found (by simp_all) | exact cut_ok (by omega) | exact or_ok (idx_ok (by omega)) | (refine or1 (fun hz => pre_ok (by simp at hz; omega) (by omega) (by omega))) | exact pre_ok (by omega) (by omega) (by omega) | (simp_all [idxOk, cutOk, leB]; done) | (simp_all [idxOk, cutOk, leB]; omega) | (simp [idxOk, cutOk, leB] at *; omega) | (simp_all [idxOk, impl_TxFault_1_v]; omega) | (have hf0 := h_x0.2.2.1.1; have hf1 := h_x0.2.2.2.1; simp only [leB, decide_eq_true_eq, List.length_append, List.length_cons, List.length_nil]; omega)) (StE.bind (slices_Contains_impl_Ref_ev (x0.fIns.take ((i0 : Int)).toNat) (gt x0.fIns (i0 : Int)) ((Lm_take h_x0.2.2.1))) (StE.ifh (fun hc1 => (StE.ret _)) (fun hc1 => StE.next))))))))) (fun j hj => by
  simp only [impl_TxFault.l0_s]
  exact Evt.f (ge_lt hj) (Evt.self _))) (fun _ => rfl) (Evt.loop (r' := fun r => r) (Evt.srch (L := (fun k i => impl_TxFault.l1 x0 k i)) 0 x0.fOuts.length (by have := h_x0.2.2.2; first | (have := this.1; omega) | omega) (fun (i3 : Nat) => (bif ((impl_outFault_v (gt x0.fOuts (i3 : Int))) != 0) then (some (impl_outFault_v (gt x0.fOuts (i3 : Int)))) else none)) (fun i3 hs5 hi5 => by
  have hbn : x0.fOuts.length ≤ 9223372036854775807 := (by have := h_x0.2.2.2; first | (have := this.1; omega) | omega)
  simp only [impl_TxFault.l1_s]
  exact Evt_t2 (int_lt hi5) (StE.chk (by first | exact idx_ok (by omega) | exact idx_ok (by have hq := len_eq (by assumption); omega) | exact idx_found (show (0 : Int) ≤ (i3 : Int) by simp_all) | exact cut_ok (by omega) | exact or_ok (idx_ok (by omega)) | (refine or1 (fun hz => pre_ok (by simp at hz; omega) (by omega) (by omega))) | exact pre_ok (by omega) (by omega) (by omega) | (simp_all [idxOk, cutOk, leB]; done) | (simp_all [idxOk, cutOk, leB]; omega) | (simp [idxOk, cutOk, leB] at *; omega) | (simp_all [idxOk, impl_TxFault_1_v]; omega) | (have hf0 := h_x0.2.2.1.1; have hf1 := h_x0.2.2.2.1; simp only [leB, decide_eq_true_eq, List.length_append, List.length_cons, List.length_nil]; omega)) (StE.bind (impl_outFault_ev (gt x0.fOuts (i3 : Int)) ((h_x0.2.2.2).2 _ (gt_mem (by first | omega | (have hq := len_eq (by assumption); omega) | (simp_all [idxOk, impl_TxFault_1_v]; omega) | (have hf0 := h_x0.2.2.1.1; have hf1 := h_x0.2.2.2.1; simp only [leB, decide_eq_true_eq, List.length_append, List.length_cons, List.length_nil]; omega))))) (StE.ifh (fun hc4 => (StE.ret _)) (fun hc4 => StE.next))))) (fun j hj => by
  simp only [impl_TxFault.l1_s]
  exact Evt.f (ge_lt hj) (Evt.self _))) (fun _ => rfl) (Evt.chk (by first | exact idx_ok (by omega) | exact idx_ok (by have hq := len_eq (by assumption); omega) | exact idx_found (by simp_all) | exact cut_ok (by omega) | exact or_ok (idx_ok (by omega)) | (refine or1 (fun hz => pre_ok (by simp at hz; omega) (by omega) (by omega))) | exact pre_ok (by omega) (by omega) (by omega) | (simp_all [idxOk, cutOk, leB]; done) | (simp_all [idxOk, cutOk, leB]; omega) | (simp [idxOk, cutOk, leB] at *; omega) | (simp_all [idxOk, impl_TxFault_1_v]; omega) | (have hf0 := h_x0.2.2.1.1; have hf1 := h_x0.2.2.2.1; simp only [leB, decide_eq_true_eq, List.length_append, List.length_cons, List.length_nil]; omega)) (Evt.ifh (fun hc5 => (Evt.self _)) (fun hc5 => (Evt.self _))))))))))))))))
theorem refs_same (r : Ref) : impl_isRef_v r = spec_l3Ref_v r := by simp only [impl_isRef_v, spec_l3Ref_v, impl_isId_v, impl_within_v, spec_l1In_v]
theorem contains_ref (xs : List Ref) (x : Ref) : slices_Contains_impl_Ref_v xs x = spec_l3Among_v xs x := by
  have e : (fun i : Nat => (x.fTx == (gt xs (i : Int)).fTx) && (x.fAt == (gt xs (i : Int)).fAt)) = fun i : Nat => ((gt xs (i : Int)).fTx == x.fTx) && ((gt xs (i : Int)).fAt == x.fAt) := by funext i; rw [BEq.comm (a := x.fTx), BEq.comm (a := x.fAt)]
  rw [slices_Contains_impl_Ref_any, e]; simp only [spec_l3Among_v, found_any, bifb]
theorem txFault_same (x0 : Tx) : impl_TxFault_v x0 = spec_l3Fault_v x0 := by
  have e1 : ∀ n : Int, impl_TxFault_1_v n = !(spec_l1In_v n 1 4) := fun n => rng1
  have e2 : ∀ x : Out, (bif ((impl_outFault_v x) != 0) then (some (impl_outFault_v x)) else none) = (bif !(spec_l1In_v x.fValue 1 1000000) then (some 3) else (bif ((spec_l2Fault_v x.fRule) != 0) then (some (spec_l2Fault_v x.fRule)) else none)) := by
    intro x
    have e : impl_outFault_v x = bif !(spec_l1In_v x.fValue 1 1000000) then 3 else spec_l2Fault_v x.fRule := by simp only [impl_outFault_v, ruleFault_same, impl_within_v, spec_l1In_v]
    rw [e]
    cases spec_l1In_v x.fValue 1 1000000 <;> rfl
  have e3 : ∀ n a b : Int, impl_within_v n a b = spec_l1In_v n a b := fun _ _ _ => rfl
  have e4 : ∀ n : Int, impl_isKey_v n = spec_l1Key_v n := fun _ => rfl
  simp only [impl_TxFault_v, spec_l3Fault_v, spec_l3Outs_v, e1, e2, e3, e4, refs_same, contains_ref]
  simp only [bne]
  generalize spec_l1In_v (x0.fIns.length : Int) 1 4 = a
  generalize spec_l1In_v (x0.fOuts.length : Int) 1 4 = b
  generalize spec_l1In_v x0.fKind 0 2 = c
  generalize spec_l1Key_v x0.fMember = d
  generalize (x0.fKind == 0) = e
  generalize (x0.fMember == 0) = f
  cases a <;> cases b <;> cases c <;> cases d <;> cases e <;> cases f <;> rfl
theorem txText_l0 (t : Tx) (ht : TxOK t) : ∀ (d i : Nat) (acc : List ByteArray), i + d = t.fIns.length → acc.length ≤ i → Evt (fun k => impl_txText.l0 t k acc (i : Int)) (acc ++ ((t.fIns.drop i).map refL).map mkB)
  | 0, i, acc, hi, ha => by
    rw [List.drop_of_length_le (by omega)]
    refine Evt.s ?_
    simp only [impl_txText.l0_s]
    exact Evt.f (ge_lt (by omega)) (Evt.ret (by simp))
  | d + 1, i, acc, hi, ha => by
    have hlt : i < t.fIns.length := by omega
    have h4 := ht.ins4
    have hx := ht.ins _ (List.getElem_mem hlt)
    have hg : gt t.fIns (i : Int) = t.fIns[i] := gt_eq (by simpa using hlt)
    have hd1 := dg_l2 (n := t.fIns[i].fTx) (by omega)
    have hd2 := dg_l1 (n := t.fIns[i].fAt) (by omega)
    have c58 : (⟨#[58]⟩ : ByteArray) = mkB [58] := rfl
    refine Evt.s ?_
    simp only [impl_txText.l0_s, hg, c58]
    refine Evt.t (int_lt hlt) (Evt.chk (idx_ok hlt) (Evt.bind (impl_dec_ev t.fIns[i].fTx (by omega) (by omega)) ?_))
    simp only [mkB_append, mkB_size, List.length_append, List.length_cons, List.length_nil]
    refine Evt.chk (leB_mk (by omega)) (Evt.bind (impl_dec_ev t.fIns[i].fAt (by omega) (by omega)) ?_)
    simp only [mkB_append, mkB_size, List.length_append, List.length_cons, List.length_nil]
    refine Evt.chk (leB_mk (by omega)) (Evt.chk (leB_mk2 (by omega)) ?_)
    rw [w64 hlt (by omega)]
    refine (txText_l0 t ht d (i + 1) _ (by omega) (by simp; omega)).to ?_
    have ed : t.fIns.drop i = t.fIns[i] :: t.fIns.drop (i + 1) := List.drop_eq_getElem_cons hlt
    rw [ed, List.map_cons, List.map_cons]
    unfold refL
    simp
theorem txText_l1 (t : Tx) (ht : TxOK t) : ∀ (d i : Nat) (acc : List ByteArray), i + d = t.fOuts.length → acc.length ≤ i + 3 → Evt (fun k => impl_txText.l1 t k acc (i : Int)) (acc ++ ((t.fOuts.drop i).map outL).map mkB)
  | 0, i, acc, hi, ha => by
    rw [List.drop_of_length_le (by omega)]
    refine Evt.s ?_
    simp only [impl_txText.l1_s]
    exact Evt.f (ge_lt (by omega)) (Evt.ret (by simp))
  | d + 1, i, acc, hi, ha => by
    have hlt : i < t.fOuts.length := by omega
    have h4 := ht.outs4
    have hx := ht.outs _ (List.getElem_mem hlt)
    have hg : gt t.fOuts (i : Int) = t.fOuts[i] := gt_eq (by simpa using hlt)
    have hr := rule_ok t.fOuts[i].fRule (by rw [hx.2]; rfl)
    have hd1 := dg_l7 (n := t.fOuts[i].fValue) (by omega)
    have hrl2 := ruleL_len t.fOuts[i].fRule 95 hr
    have c61 : (⟨#[61]⟩ : ByteArray) = mkB [61] := rfl
    have c95 : (⟨#[95]⟩ : ByteArray) = mkB [95] := rfl
    refine Evt.s ?_
    simp only [impl_txText.l1_s, hg, c61, c95]
    refine Evt.t (int_lt hlt) (Evt.chk (idx_ok hlt) (Evt.bind (impl_dec_ev t.fOuts[i].fValue (by omega) (by omega)) ?_))
    simp only [mkB_append, mkB_size, List.length_append, List.length_cons, List.length_nil]
    refine Evt.chk (leB_mk (by omega)) (Evt.bind (impl_ruleText_ev t.fOuts[i].fRule [95] (by simp) hr) ?_)
    simp only [mkB_append, mkB_size, List.length_append, List.length_cons, List.length_nil]
    refine Evt.chk (leB_mk (by omega)) (Evt.chk (leB_mk2 (by omega)) ?_)
    rw [w64 hlt (by omega)]
    refine (txText_l1 t ht d (i + 1) _ (by omega) (by simp; omega)).to ?_
    have ed : t.fOuts.drop i = t.fOuts[i] :: t.fOuts.drop (i + 1) := List.drop_eq_getElem_cons hlt
    rw [ed, List.map_cons, List.map_cons]
    unfold outL
    simp
def txText_v (t : Tx) : ByteArray × Int := bif decide (300 < ((txL t).length : Int)) then ((⟨#[]⟩ : ByteArray), 2) else (mkB (txL t), 0)
theorem impl_txText_ev (t : Tx) (ht : TxOK t) : Evt (fun k => impl_txText.f k t) (txText_v t) := by
  have hk := ht.kind
  have c43 : (⟨#[43]⟩ : ByteArray) = mkB [43] := rfl
  have c32 : (⟨#[32]⟩ : ByteArray) = mkB [32] := rfl
  have hins4 := ht.ins4
  have houts4 := ht.outs4
  have hj := ins_len ht
  have htl := txL_len ht
  obtain ⟨hw1, hw2⟩ := txWs_len ht
  have hg : gt ([(⟨#[112, 97, 121]⟩ : ByteArray), (⟨#[106, 111, 105, 110]⟩ : ByteArray), (⟨#[108, 101, 97, 118, 101]⟩ : ByteArray)] : List ByteArray) t.fKind = mkB (kindW t.fKind) := by
    have h3 : t.fKind = 0 ∨ t.fKind = 1 ∨ t.fKind = 2 := by omega
    rcases h3 with h | h | h <;> rw [h] <;> rfl
  have hik : idxOk t.fKind ([(⟨#[112, 97, 121]⟩ : ByteArray), (⟨#[106, 111, 105, 110]⟩ : ByteArray), (⟨#[108, 101, 97, 118, 101]⟩ : ByteArray)] : List ByteArray).length = true := by unfold idxOk; simp; omega
  have e0 := txText_l0 t ht t.fIns.length 0 [] (by omega) (by simp)
  rw [List.nil_append, List.drop_zero] at e0
  have hh : Evt (fun k => (bif (t.fKind != 0) then ((impl_dec.f k t.fMember).bind fun t3099 => (Zk.chk (leB ((([mkB (kindW t.fKind)] : List ByteArray).length + ([t3099] : List ByteArray).length) * 16) 140737488355328) (some (([mkB (kindW t.fKind)] : List ByteArray) ++ ([t3099] : List ByteArray))))) else some ([mkB (kindW t.fKind)] : List ByteArray))) ((txHead t).map mkB) := by
    unfold txHead
    cases hz : t.fKind != 0
    · exact Evt.f rfl (Evt.self _)
    · have hm := ht.mem (by simpa using hz)
      exact Evt.t rfl (Evt.bind (impl_dec_ev t.fMember (by omega) (by omega)) (Evt.chk rfl (Evt.self _)))
  have hhl : (txHead t).length ≤ 2 := by unfold txHead; cases t.fKind != 0 <;> simp
  have e1 := txText_l1 t ht t.fOuts.length 0 ((txHead t).map mkB ++ [mkB (Lib.join (t.fIns.map refL) [43])]) (by omega) (by simp; omega)
  have ew : (txHead t).map mkB ++ [mkB (Lib.join (t.fIns.map refL) [43])] ++ ((t.fOuts.drop 0).map outL).map mkB = (txWs t).map mkB := by unfold txWs; simp
  rw [ew] at e1
  unfold impl_txText.f
  refine Evt.bind (Evt.self _) (Evt.chk hik ?_)
  simp only [hg, c43, c32]
  refine Evt.bind hh (Evt.bind e0 (Evt.bind (strings_Join_ev (t.fIns.map refL) [43] (by rw [List.length_map]; omega) (by omega)) (Evt.chk (leB_mk2 (by simp; omega)) (Evt.bind e1 (Evt.bind (strings_Join_ev (txWs t) [32] (by omega) (by show (txL t).length ≤ _; omega)) ?_)))))
  show Evt (fun k => bif (decide (300 < ((mkB (txL t)).size : Int))) then some ((⟨#[]⟩ : ByteArray), 2) else some (mkB (txL t), 0)) _
  rw [mkB_size]
  unfold txText_v
  exact Evt.if_ (Evt.self _) (Evt.self _)
theorem refs_loop (ps : List (List UInt8)) (hn : ps.length ≤ 1048577) (hp : ∀ p ∈ ps, p.length ≤ 1048576) : ∀ (d i : Nat) (acc : List Ref), i + d = ps.length → acc.length = i → ∃ rs, Evt (fun k => impl_readTx.l0 (ps.map mkB) k acc (i : Int)) rs ∧ rs.length = ps.length
  | 0, i, acc, hi, ha => by
    refine ⟨acc, Evt.s ?_, by omega⟩
    simp only [impl_readTx.l0_s, List.length_map]
    exact Evt.f (ge_lt (by omega)) (Evt.self _)
  | d + 1, i, acc, hi, ha => by
    have hlt : i < ps.length := by omega
    have hg : gt (ps.map mkB) (i : Int) = mkB ps[i] := by rw [gt_eq (by simpa using hlt)]; simp
    have hl := hp _ (List.getElem_mem hlt)
    have hz := cut_sz ps[i] [58]
    have c1 : (⟨#[58]⟩ : ByteArray) = mkB [58] := rfl
    obtain ⟨n1, e1, _⟩ := number_ev (Lib.cut ps[i] [58]).1 (by omega)
    obtain ⟨n2, e2, _⟩ := number_ev (Lib.cut ps[i] [58]).2.1 (by omega)
    obtain ⟨rs, h, hl2⟩ := refs_loop ps hn hp d (i + 1) (acc ++ [⟨n1, n2⟩]) (by omega) (by simp [ha])
    refine ⟨rs, Evt.s ?_, hl2⟩
    simp only [impl_readTx.l0_s, List.length_map, hg, c1]
    refine Evt.t (int_lt hlt) (Evt.chk (idx_ok hlt) (Evt.bind (strings_Cut_ev ps[i] [58] hl) (Evt.bind e1 (Evt.bind e2 (Evt.chk (leB_mk2 (by simp; omega)) ?_)))))
    rw [w64 hlt (by omega)]; exact h
theorem refs_of (rs : List Ref) (hn : rs.length ≤ 4) (hr : ∀ r ∈ rs, (1 ≤ r.fTx ∧ r.fTx ≤ 60) ∧ 0 ≤ r.fAt ∧ r.fAt ≤ 3) : ∀ (d i : Nat), i + d = rs.length → Evt (fun k => impl_readTx.l0 ((rs.map refL).map mkB) k (rs.take i) (i : Int)) rs
  | 0, i, hi => by
    refine Evt.s ?_
    simp only [impl_readTx.l0_s, List.length_map]
    rw [List.take_of_length_le (by omega)]
    exact Evt.f (ge_lt (by omega)) (Evt.self _)
  | d + 1, i, hi => by
    have hlt : i < rs.length := by omega
    have hx := hr _ (List.getElem_mem hlt)
    have hg : gt ((rs.map refL).map mkB) (i : Int) = mkB (refL rs[i]) := by rw [gt_eq (by simpa using hlt)]; simp
    have c1 : (⟨#[58]⟩ : ByteArray) = mkB [58] := rfl
    have hs := strings_Cut_ev (refL rs[i]) [58] (by have := refL_len hx; omega)
    have hc : Lib.cut (refL rs[i]) [58] = (dgL rs[i].fTx, dgL rs[i].fAt, true) := cut_at (dg_no nodg _)
    rw [hc] at hs
    have e1 := number_dg rs[i].fTx (by omega) (by omega)
    have e2 := number_dg rs[i].fAt (by omega) (by omega)
    refine Evt.s ?_
    simp only [impl_readTx.l0_s, List.length_map, hg, c1]
    refine Evt.t (int_lt hlt) (Evt.chk (idx_ok hlt) (Evt.bind hs (Evt.bind e1 (Evt.bind e2 (Evt.chk (leB_mk2 (by simp; omega)) ?_)))))
    rw [w64 hlt (by omega)]
    have et : rs.take i ++ [rs[i]] = rs.take (i + 1) := (List.take_succ_eq_append_getElem hlt).symm
    have := refs_of rs hn hr d (i + 1) (by omega)
    rw [← et] at this
    exact this
theorem outs_loop (W : List ByteArray) (vs : List (List UInt8)) (hv : W.drop ((1 : Int)).toNat = vs.map mkB) (hn : vs.length ≤ 100) (hp : ∀ p ∈ vs, p.length ≤ 1048576) : ∀ (d i : Nat) (acc : List Out), i + d = vs.length → acc.length = i → (∀ o ∈ acc, spec_l2Fault_v o.fRule = 0) →
    ∃ o, Evt (fun k => impl_readTx.l1 W k acc (i : Int)) o ∧ (o = .inl (zTx, false) ∨ ∃ os, o = .inr os ∧ os.length = vs.length ∧ ∀ o ∈ os, spec_l2Fault_v o.fRule = 0)
  | 0, i, acc, hi, ha, hq => by
    refine ⟨.inr acc, Evt.s ?_, .inr ⟨acc, rfl, by omega, hq⟩⟩
    simp only [impl_readTx.l1_s, hv, List.length_map]
    exact Evt.f (ge_lt (by omega)) (Evt.self _)
  | d + 1, i, acc, hi, ha, hq => by
    have hlt : i < vs.length := by omega
    have hg : gt (vs.map mkB) (i : Int) = mkB vs[i] := by rw [gt_eq (by simpa using hlt)]; simp
    obtain ⟨r, er, q⟩ := readOut_ev vs[i] (hp _ (List.getElem_mem hlt))
    cases hr : r.2
    · refine ⟨.inl (zTx, false), Evt.s ?_, .inl rfl⟩
      simp only [impl_readTx.l1_s, hv, List.length_map, hg]
      exact Evt.t (int_lt hlt) (Evt.chk (idx_ok hlt) (Evt.bind er (Evt.t (by rw [hr]; rfl) (Evt.self _))))
    · obtain ⟨o, ho, q2⟩ := outs_loop W vs hv hn hp d (i + 1) (acc ++ [⟨r.1.fValue, ⟨r.1.fRule.fKeys, r.1.fRule.fNeed, r.1.fRule.fAfter⟩⟩]) (by omega) (by simp [ha]) (fun o ho => by
        rcases List.mem_append.1 ho with ho | ho
        · exact hq o ho
        · simp at ho; subst ho; exact q hr)
      refine ⟨o, Evt.s ?_, q2⟩
      simp only [impl_readTx.l1_s, hv, List.length_map, hg]
      refine Evt.t (int_lt hlt) (Evt.chk (idx_ok hlt) (Evt.bind er (Evt.f (by rw [hr]; rfl) (Evt.chk (leB_mk2 (by simp; omega)) ?_))))
      rw [w64 hlt (by omega)]; exact ho
theorem outs_of (W : List ByteArray) (os : List Out) (hv : W.drop ((1 : Int)).toNat = (os.map outL).map mkB) (hn : os.length ≤ 4) (hx : ∀ o ∈ os, (1 ≤ o.fValue ∧ o.fValue ≤ 1000000) ∧ spec_l2Fault_v o.fRule = 0) : ∀ (d i : Nat), i + d = os.length → Evt (fun k => impl_readTx.l1 W k (os.take i) (i : Int)) (.inr os)
  | 0, i, hi => by
    refine Evt.s ?_
    simp only [impl_readTx.l1_s, hv, List.length_map]
    rw [List.take_of_length_le (by omega)]
    exact Evt.f (ge_lt (by omega)) (Evt.self _)
  | d + 1, i, hi => by
    have hlt : i < os.length := by omega
    have hg : gt ((os.map outL).map mkB) (i : Int) = mkB (outL os[i]) := by rw [gt_eq (by simpa using hlt)]; simp
    refine Evt.s ?_
    simp only [impl_readTx.l1_s, hv, List.length_map, hg]
    refine Evt.t (int_lt hlt) (Evt.chk (idx_ok hlt) (Evt.bind (readOut_of os[i] (hx _ (List.getElem_mem hlt))) (Evt.f rfl (Evt.chk (leB_mk2 (by simp; omega)) ?_))))
    rw [w64 hlt (by omega)]
    have et : os.take i ++ [os[i]] = os.take (i + 1) := (List.take_succ_eq_append_getElem hlt).symm
    have := outs_of W os hv hn hx d (i + 1) (by omega)
    rw [← et] at this
    exact this
theorem rt_end (l : List UInt8) (t : Tx) (hm : smTx t) : ∃ r, Evt (fun k => ((impl_TxFault.f k t).bind fun a => (bif (a != 0) then some (zTx, false) else ((impl_txText.f k t).bind fun b => some (t, ((b.2 == 0) && (sEq b.1 (mkB l)))))))) r ∧ (r.2 = true → spec_l3Fault_v r.1 = 0 ∧ txL r.1 = l ∧ l.length ≤ 300) ∧ (spec_l3Fault_v t = 0 → txL t = l → l.length ≤ 300 → r = (t, true)) := by
  have ef := impl_TxFault_ev t hm
  rw [txFault_same] at ef
  cases hf : spec_l3Fault_v t != 0
  · have ht := tx_ok t hf
    have h0 : spec_l3Fault_v t = 0 := by simpa using hf
    have et := impl_txText_ev t ht
    cases hd : decide (300 < ((txL t).length : Int))
    · have hv : txText_v t = (mkB (txL t), 0) := by unfold txText_v; rw [hd]; rfl
      rw [hv] at et
      have hd' := of_decide_eq_false hd
      refine ⟨(t, sEq (mkB (txL t)) (mkB l)), Evt.bind ef (Evt.f hf (Evt.bind et (Evt.ret ?_))), fun h => ?_, fun _ h2 h3 => ?_⟩
      · show (t, (((0 : Int) == 0) && (sEq (mkB (txL t)) (mkB l)))) = _
        simp
      · have := sEq_mk.1 (show sEq (mkB (txL t)) (mkB l) = true from h)
        exact ⟨h0, this, by rw [← this]; omega⟩
      · rw [h2, sEq_mk.2 rfl]
    · have hv : txText_v t = ((⟨#[]⟩ : ByteArray), 2) := by unfold txText_v; rw [hd]; rfl
      rw [hv] at et
      have hd' := of_decide_eq_true hd
      refine ⟨(t, false), Evt.bind ef (Evt.f hf (Evt.bind et (Evt.ret rfl))), fun h => (by cases h), fun _ h2 h3 => ?_⟩
      rw [h2] at hd'; omega
  · refine ⟨(zTx, false), Evt.bind ef (Evt.t hf (Evt.self _)), fun h => (by cases h), fun h => ?_⟩
    rw [h] at hf; cases hf
abbrev kws : List ByteArray := [(⟨#[112, 97, 121]⟩ : ByteArray), (⟨#[106, 111, 105, 110]⟩ : ByteArray), (⟨#[108, 101, 97, 118, 101]⟩ : ByteArray)]
theorem kws_sm : (Lm tr) kws := ⟨by decide, fun _ _ => trivial⟩
theorem kidx_of (k : Int) (h : 0 ≤ k ∧ k ≤ 2) : Evt (fun n => slices_Index_string.f n kws (mkB (kindW k))) k := by
  have h3 : k = 0 ∨ k = 1 ∨ k = 2 := by omega
  have e0 : (⟨#[112, 97, 121]⟩ : ByteArray) = mkB [112, 97, 121] := rfl
  have e1 : (⟨#[106, 111, 105, 110]⟩ : ByteArray) = mkB [106, 111, 105, 110] := rfl
  have e2 : (⟨#[108, 101, 97, 118, 101]⟩ : ByteArray) = mkB [108, 101, 97, 118, 101] := rfl
  refine (slices_Index_string_ev kws (mkB (kindW k)) kws_sm).to ?_
  unfold slices_Index_string_v
  have g0 : gt kws ((0 : Nat) : Int) = mkB [112, 97, 121] := rfl
  have g1 : gt kws ((1 : Nat) : Int) = mkB [106, 111, 105, 110] := rfl
  have g2 : gt kws ((2 : Nat) : Int) = mkB [108, 101, 97, 118, 101] := rfl
  have hr : List.range' 0 (kws.length - 0) = [0, 1, 2] := rfl
  rw [hr]
  simp only [List.findSome?_cons, List.findSome?_nil, g0, g1, g2]
  rcases h3 with rfl | rfl | rfl
  · have : sEq (mkB (kindW 0)) (mkB [112, 97, 121]) = true := sEq_mk.2 rfl
    rw [this]; rfl
  · have a0 : sEq (mkB (kindW 1)) (mkB [112, 97, 121]) = false := sEq_mkf (by decide)
    have a1 : sEq (mkB (kindW 1)) (mkB [106, 111, 105, 110]) = true := sEq_mk.2 rfl
    rw [a0, a1]; rfl
  · have a0 : sEq (mkB (kindW 2)) (mkB [112, 97, 121]) = false := sEq_mkf (by decide)
    have a1 : sEq (mkB (kindW 2)) (mkB [106, 111, 105, 110]) = false := sEq_mkf (by decide)
    have a2 : sEq (mkB (kindW 2)) (mkB [108, 101, 97, 118, 101]) = true := sEq_mk.2 rfl
    rw [a0, a1, a2]; rfl
abbrev rtail (l : List UInt8) (K M : Int) (w : List ByteArray) (k : Nat) : Option (Tx × Bool) := (bif ((decide ((w.length : Int) < 2)) || (decide (5 < (w.length : Int)))) then some ((⟨0, 0, ([] : List Ref), ([] : List Out)⟩ : Tx), false) else ((Zk.chk (idxOk (0 : Int) w.length) ((strings_Split.f k (gt w (0 : Int)) (⟨#[43]⟩ : ByteArray)).bind fun t4702 => impl_readTx.l0 t4702 k ([] : List Ref) 0)).bind (fun a4696 => ((Zk.chk (cutOk (1 : Int) w.length) (impl_readTx.l1 w k ([] : List Out) 0)).bind fun o4841 => thn o4841 (fun r => some r) (fun a4839 => ((impl_TxFault.f k (⟨K, M, a4696, a4839⟩ : Tx)).bind fun t4921 => (bif (t4921 != 0) then some ((⟨0, 0, ([] : List Ref), ([] : List Out)⟩ : Tx), false) else ((impl_txText.f k (⟨K, M, a4696, a4839⟩ : Tx)).bind fun t4928 => some ((⟨K, M, a4696, a4839⟩ : Tx), ((t4928.2 == 0) && (sEq t4928.1 (mkB l)))))))))))) 
theorem rtail_ev (l : List UInt8) (K M : Int) (ws : List (List UInt8)) (hp : ∀ p ∈ ws, p.length ≤ 1000) : ∃ r, Evt (fun k => rtail l K M (ws.map mkB) k) r ∧ (r.2 = true → spec_l3Fault_v r.1 = 0 ∧ txL r.1 = l ∧ l.length ≤ 300) := by
  have c1 : (⟨#[43]⟩ : ByteArray) = mkB [43] := rfl
  have hlm : (ws.map mkB).length = ws.length := List.length_map ..
  by_cases hb : ws.length < 2 ∨ 5 < ws.length
  · refine ⟨(zTx, false), Evt.t ?_ (Evt.self _), fun h => by cases h⟩
    rw [hlm, Bool.or_eq_true, decide_eq_true_eq, decide_eq_true_eq]; omega
  · have hg : gt (ws.map mkB) (0 : Int) = mkB (ws[0]'(by omega)) := by
      have := gt_eq (xs := ws.map mkB) (i := (0 : Int)) (by simp; omega)
      rw [this]; simp
    have h0 := hp _ (List.getElem_mem (show 0 < ws.length by omega))
    have hs := strings_Split_ev (ws[0]'(by omega)) 43 (by omega)
    have hcl := cutA_len 43 (ws[0]'(by omega)) []
    obtain ⟨rs, er, hrl⟩ := refs_loop (cutA 43 [] (ws[0]'(by omega))) (by omega) (fun p h => by have := cutA_le 43 _ [] p h; simp at this; omega) _ 0 [] (Nat.zero_add _) rfl
    obtain ⟨o, eo, q⟩ := outs_loop (ws.map mkB) (ws.drop 1) (by simp) (by simp; omega) (fun p h => by have := hp p (List.mem_of_mem_drop h); omega) _ 0 [] (Nat.zero_add _) rfl (by simp)
    have hc : ((decide (((ws.map mkB).length : Int) < 2)) || (decide (5 < ((ws.map mkB).length : Int)))) = false := by
      rw [hlm, Bool.or_eq_false_iff, decide_eq_false_iff_not, decide_eq_false_iff_not]; omega
    have hi : idxOk (0 : Int) (ws.map mkB).length = true := by rw [hlm]; exact idx_ok (i := 0) (by omega)
    have hk : cutOk (1 : Int) (ws.map mkB).length = true := by rw [hlm]; exact cut_ok (i := 1) (by omega)
    rcases q with rfl | ⟨os, rfl, hol, hof⟩
    · exact ⟨(zTx, false), Evt.f hc (Evt.bind (Evt.chk hi (by rw [hg, c1]; exact Evt.bind hs er)) (Evt.bind (Evt.chk hk eo) (Evt.self _))), fun h => by cases h⟩
    · obtain ⟨r, e, q1, _⟩ := rt_end l ⟨K, M, rs, os⟩ (sm_tx K M rs os (by omega) (by simp at hol; omega) hof)
      exact ⟨r, Evt.f hc (Evt.bind (Evt.chk hi (by rw [hg, c1]; exact Evt.bind hs er)) (Evt.bind (Evt.chk hk eo) e)), q1⟩
theorem rtail_of (K M : Int) (rs : List Ref) (os : List Out) (ht : TxOK ⟨K, M, rs, os⟩) (h0 : spec_l3Fault_v ⟨K, M, rs, os⟩ = 0) (hl : (txL ⟨K, M, rs, os⟩).length ≤ 300) : Evt (fun k => rtail (txL ⟨K, M, rs, os⟩) K M (([Lib.join (rs.map refL) [43]] ++ os.map outL).map mkB) k) ((⟨K, M, rs, os⟩ : Tx), true) := by
  have c1 : (⟨#[43]⟩ : ByteArray) = mkB [43] := rfl
  have o1 : 1 ≤ os.length := ht.outs1
  have o4 : os.length ≤ 4 := ht.outs4
  have i1 : 1 ≤ rs.length := ht.ins1
  have i4 : rs.length ≤ 4 := ht.ins4
  have hil := ins_len ht
  have hlm : (([Lib.join (rs.map refL) [43]] ++ os.map outL).map mkB).length = os.length + 1 := by simp
  have hs := strings_Split_ev (Lib.join (rs.map refL) [43]) 43 (by have : (Lib.join (rs.map refL) [43]).length ≤ 20 := hil; omega)
  rw [cut_refs rs (by intro e; rw [e] at i1; simp at i1)] at hs
  have er := refs_of rs i4 ht.ins rs.length 0 (by omega)
  have eo := outs_of (([Lib.join (rs.map refL) [43]] ++ os.map outL).map mkB) os (by simp) o4 ht.outs os.length 0 (by omega)
  obtain ⟨r, e, _, q⟩ := rt_end (txL ⟨K, M, rs, os⟩) ⟨K, M, rs, os⟩ (sm_tx K M rs os (by omega) (by omega) (fun o h => (ht.outs o h).2))
  rw [q h0 rfl hl] at e
  refine Evt.f ?_ (Evt.bind (Evt.chk (by rw [hlm]; exact idx_ok (i := 0) (by omega)) (Evt.bind hs er)) (Evt.bind (Evt.chk ?_ eo) e))
  · rw [hlm, Bool.or_eq_false_iff, decide_eq_false_iff_not, decide_eq_false_iff_not]; omega
  · rw [hlm]; exact cut_ok (i := 1) (by omega)
theorem readTx_ev (l : List UInt8) (hl : l.length ≤ 1048576) : ∃ r, Evt (fun k => impl_readTx.f k (mkB l)) r ∧ (r.2 = true → spec_l3Fault_v r.1 = 0 ∧ txL r.1 = l ∧ l.length ≤ 300) := by
  have c1 : (⟨#[32]⟩ : ByteArray) = mkB [32] := rfl
  have hs := strings_Split_ev l 32 hl
  have hpos := cutA_pos 32 l []
  have hle : ∀ p ∈ cutA 32 [] l, p.length ≤ l.length := fun p hp => by have := cutA_le 32 l [] p hp; simpa using this
  unfold impl_readTx.f
  simp only [mkB_size, c1]
  generalize hws : cutA 32 [] l = ws at hs hpos hle
  have hlm : (ws.map mkB).length = ws.length := List.length_map ..
  have hi0 : idxOk (0 : Int) (ws.map mkB).length = true := by rw [hlm]; exact idx_ok (i := 0) (by omega)
  have hk1 : cutOk (1 : Int) (ws.map mkB).length = true := by rw [hlm]; exact cut_ok (i := 1) (by omega)
  have ek : Evt (fun k => impl_kindWords.f k) kws := Evt.self _
  have ei := slices_Index_string_ev kws (gt (ws.map mkB) (0 : Int)) kws_sm
  generalize slices_Index_string_v kws (gt (ws.map mkB) (0 : Int)) = K at ei
  cases hb : ((decide (300 < (l.length : Int))) || (decide (K < 0)))
  · have h300 : l.length ≤ 300 := by
      rw [Bool.or_eq_false_iff, decide_eq_false_iff_not] at hb; omega
    have hd1 : (ws.map mkB).drop ((1 : Int)).toNat = (ws.drop 1).map mkB := by simp
    have hdl : ((ws.drop 1).map mkB).length = (ws.drop 1).length := List.length_map ..
    cases hc : ((K != 0) && (decide (0 < ((((ws.map mkB).drop ((1 : Int)).toNat).length : Nat) : Int))))
    · obtain ⟨r, er, q⟩ := rtail_ev l K 0 (ws.drop 1) (fun p h => by have := hle p (List.mem_of_mem_drop h); omega)
      rw [← hd1] at er
      exact ⟨r, Evt.bind hs (Evt.chk hi0 (Evt.bind ek (Evt.bind ei (Evt.f hb (Evt.chk hk1 (Evt.bind (Evt.f hc (Evt.self _)) er)))))), q⟩
    · have hc' := hc
      rw [Bool.and_eq_true, decide_eq_true_eq, hd1, hdl] at hc'
      have hlt : 0 < (ws.drop 1).length := by omega
      have hg : gt ((ws.map mkB).drop ((1 : Int)).toNat) (0 : Int) = mkB ((ws.drop 1)[0]) := by
        rw [hd1]
        have := gt_eq (xs := (ws.drop 1).map mkB) (i := (0 : Int)) (by simp at hlt ⊢; omega)
        rw [this]; simp
      have h0 := hle _ (List.mem_of_mem_drop (List.getElem_mem hlt))
      obtain ⟨n, en, _⟩ := number_ev (ws.drop 1)[0] (by omega)
      obtain ⟨r, er, q⟩ := rtail_ev l K n ((ws.drop 1).drop 1) (fun p h => by have := hle p (List.mem_of_mem_drop (List.mem_of_mem_drop h)); omega)
      have hd2 : ((ws.map mkB).drop ((1 : Int)).toNat).drop ((1 : Int)).toNat = ((ws.drop 1).drop 1).map mkB := by simp
      rw [← hd2] at er
      refine ⟨r, Evt.bind hs (Evt.chk hi0 (Evt.bind ek (Evt.bind ei (Evt.f hb (Evt.chk hk1 (Evt.bind (Evt.t hc (Evt.chk ?_ (Evt.bind (by rw [hg]; exact en) (Evt.chk ?_ (Evt.self _))))) er)))))), q⟩
      · rw [hd1, hdl]; exact idx_ok (i := 0) hlt
      · rw [hd1, hdl]; exact cut_ok (i := 1) (by omega)
  · exact ⟨(zTx, false), Evt.bind hs (Evt.chk hi0 (Evt.bind ek (Evt.bind ei (Evt.t hb (Evt.self _))))), fun h => by cases h⟩
theorem readTx_of (t : Tx) (h0 : spec_l3Fault_v t = 0) (hl : (txL t).length ≤ 300) : Evt (fun k => impl_readTx.f k (mkB (txL t))) (t, true) := by
  have ht := tx_ok t (by rw [h0]; rfl)
  obtain ⟨K, M, rs, os⟩ := t
  have c1 : (⟨#[32]⟩ : ByteArray) = mkB [32] := rfl
  have hk : 0 ≤ K ∧ K ≤ 2 := ht.kind
  have hs := strings_Split_ev (txL ⟨K, M, rs, os⟩) 32 (by omega)
  rw [tx_cut] at hs
  unfold impl_readTx.f
  simp only [mkB_size, c1]
  have ek : Evt (fun k => impl_kindWords.f k) kws := Evt.self _
  have ei := kidx_of K hk
  have et := rtail_of K M rs os ht h0 hl
  have hb : ((decide (300 < (((txL ⟨K, M, rs, os⟩).length : Nat) : Int))) || (decide (K < 0))) = false := by
    rw [Bool.or_eq_false_iff, decide_eq_false_iff_not, decide_eq_false_iff_not]; omega
  by_cases h : K = 0
  · have hM : M = 0 := ht.mem0 h
    subst h; subst hM
    have hw : txWs ⟨0, 0, rs, os⟩ = kindW 0 :: ([Lib.join (rs.map refL) [43]] ++ os.map outL) := rfl
    rw [hw] at hs
    refine Evt.bind hs (Evt.chk (idx_ok (i := 0) (by simp)) (Evt.bind ek (Evt.bind ei (Evt.f hb (Evt.chk (by rw [List.length_map]; exact cut_ok (i := 1) (by simp)) (Evt.bind (Evt.f rfl (Evt.self _)) et))))))
  · have hm : 1 ≤ M ∧ M ≤ 999 := ht.mem h
    have hz : (K != 0) = true := by simpa using h
    have hw : txWs ⟨K, M, rs, os⟩ = kindW K :: dgL M :: ([Lib.join (rs.map refL) [43]] ++ os.map outL) := by
      unfold txWs txHead
      rw [show ((⟨K, M, rs, os⟩ : Tx).fKind != 0) = true from hz]; rfl
    rw [hw] at hs
    refine Evt.bind hs (Evt.chk (idx_ok (i := 0) (by simp)) (Evt.bind ek (Evt.bind ei (Evt.f hb (Evt.chk (by rw [List.length_map]; exact cut_ok (i := 1) (by simp)) (Evt.bind (Evt.t ?_ (Evt.chk (idx_ok (i := 0) (by simp)) (Evt.bind (number_dg M (by omega) (by omega)) (Evt.chk (cut_ok (i := 1) (by simp)) (Evt.self _))))) et))))))
    rw [hz]; simp; omega
theorem impl_ParseTx_ex (x0 : ByteArray) (h : x0.size ≤ 1048576) : ∃ r, Evt (fun k => impl_ParseTx.f k x0) r ∧ ((r = ⟨5, zTx⟩ ∧ ∀ b, spec_l3Fault_v b = 0 → (txL b).length ≤ 300 → x0 ≠ mkB (txL b)) ∨ ∃ b, spec_l3Fault_v b = 0 ∧ (txL b).length ≤ 300 ∧ x0 = mkB (txL b) ∧ r = ⟨0, b⟩) := by
  obtain ⟨l, rfl⟩ : ∃ l, x0 = mkB l := ⟨_, mk_of x0⟩
  rw [mkB_size] at h
  obtain ⟨r, e, q⟩ := readTx_ev l h
  cases hr : r.2
  · refine ⟨⟨5, zTx⟩, Evt.bind e (Evt.t (by rw [hr]; rfl) (Evt.self _)), .inl ⟨rfl, fun b hb hl hx => ?_⟩⟩
    have h2 := readTx_of b hb hl
    rw [← hx] at h2
    have := Evt.uniq e h2
    rw [this] at hr; cases hr
  · obtain ⟨h1, h2, h3⟩ := q hr
    exact ⟨⟨0, r.1⟩, Evt.bind e (Evt.f (by rw [hr]; rfl) (Evt.self _)), .inr ⟨r.1, h1, by rw [h2]; exact h3, by rw [h2], rfl⟩⟩
def impl_TxText_v (x0 : Tx) : TextResult := (bif ((impl_TxFault_v x0) != 0) then (⟨(impl_TxFault_v x0), (⟨#[]⟩ : ByteArray)⟩ : TextResult) else (⟨(txText_v x0).2, (txText_v x0).1⟩ : TextResult))
theorem impl_TxText_ev (x0 : Tx) (h_x0 : smTx x0) : Evt (fun k => impl_TxText.f k x0) (impl_TxText_v x0) := by
  refine Evt.bind (impl_TxFault_ev x0 h_x0) (Evt.ifh (fun hc => Evt.self _) (fun hc => Evt.bind (impl_txText_ev x0 (tx_ok x0 (by rw [← txFault_same]; exact hc))) (Evt.self _)))
def impl_outSum_v (x0 : Tx) : Int := ((List.range' 0 (x0.fOuts.length - 0)).foldl (fun ac1 (i0 : Nat) => ((wrap64 (ac1 + ((gt x0.fOuts (i0 : Int)).fValue))))) 0)
theorem impl_outSum_ev (x0 : Tx) (h_x0 : smTx x0) : Evt (fun k => impl_outSum.f k x0) (impl_outSum_v x0) :=
  (Evt.bind (Evt.gather (L := (fun k ac i => impl_outSum.l0 x0 k ac i)) 0 x0.fOuts.length (by have := h_x0.2.2.2; first | (have := this.1; omega) | omega) (fun ac1 (i0 : Nat) => ((wrap64 (ac1 + ((gt x0.fOuts (i0 : Int)).fValue))))) (fun i0 hs1 hi1 ac1 o hg => by
  have hbn : x0.fOuts.length ≤ 9223372036854775807 := (by have := h_x0.2.2.2; first | (have := this.1; omega) | omega)
  simp only [impl_outSum.l0_s]
  exact Evt.t (int_lt hi1) (Evt.chk (by first | (simp only [leB, decide_eq_true_eq, List.length_append, List.length_cons, List.length_nil]; omega) | exact idx_ok (by omega) | exact idx_ok (by have hq := len_eq (by assumption); omega) | exact idx_found (by simp_all) | exact cut_ok (by omega) | exact or_ok (idx_ok (by omega)) | (refine or1 (fun hz => pre_ok (by simp at hz; omega) (by omega) (by omega))) | exact pre_ok (by omega) (by omega) (by omega) | (simp_all [idxOk, cutOk, leB]; done) | (simp_all [idxOk, cutOk, leB]; omega) | (simp [idxOk, cutOk, leB] at *; omega) | (have hf0 := h_x0.2.2.1.1; have hf1 := h_x0.2.2.2.1; simp only [leB, decide_eq_true_eq, List.length_append, List.length_cons, List.length_nil]; omega)) hg)) (fun j ac hj => by
  simp only [impl_outSum.l0_s]
  exact Evt.f (ge_lt hj) (Evt.self _)) 0) (Evt.self _))
def impl_OutSum_v (x0 : Tx) : IntResult := (bif ((impl_TxFault_v x0) != 0) then (⟨(impl_TxFault_v x0), 0⟩ : IntResult) else (⟨0, (impl_outSum_v x0)⟩ : IntResult))
theorem impl_OutSum_ev (x0 : Tx) (h_x0 : smTx x0) : Evt (fun k => impl_OutSum.f k x0) (impl_OutSum_v x0) :=
  (Evt.bind (impl_TxFault_ev x0 (h_x0)) (Evt.ifh (fun hc0 => (Evt.self _)) (fun hc0 => (Evt.bind (impl_outSum_ev x0 (h_x0)) (Evt.self _)))))
def slices_Equal_impl_Ref_v (x0 : List Ref) (x1 : List Ref) : Bool := (bif ((x0.length : Int) != (x1.length : Int)) then false else (onO ((List.range' 0 (x0.length - 0)).findSome? (fun (i0 : Nat) => (bif (!((((gt x0 (i0 : Int)).fTx) == ((gt x1 (i0 : Int)).fTx)) && (((gt x0 (i0 : Int)).fAt) == ((gt x1 (i0 : Int)).fAt)))) then (some false) else none))) (fun r => r) true))
theorem slices_Equal_impl_Ref_ev (x0 : List Ref) (x1 : List Ref) (h_x0 : (Lm smRef) x0) (h_x1 : (Lm smRef) x1) : Evt (fun k => slices_Equal_impl_Ref.f k x0 x1) (slices_Equal_impl_Ref_v x0 x1) :=
  (Evt.ifh (fun hc2 => (Evt.self _)) (fun hc2 => (Evt.loop (r' := fun r => r) (Evt.srch (L := (fun k i => slices_Equal_impl_Ref.l0 x0 x1 k i)) 0 x0.length (by have := h_x0; first | (have := this.1; omega) | omega) (fun (i0 : Nat) => (bif (!((((gt x0 (i0 : Int)).fTx) == ((gt x1 (i0 : Int)).fTx)) && (((gt x0 (i0 : Int)).fAt) == ((gt x1 (i0 : Int)).fAt)))) then (some false) else none)) (fun i0 hs2 hi2 => by
  have hbn : x0.length ≤ 9223372036854775807 := (by have := h_x0; first | (have := this.1; omega) | omega)
  simp only [slices_Equal_impl_Ref.l0_s]
  exact Evt_t2 (int_lt hi2) (StE.chk (by first | exact idx_ok (by omega) | exact idx_ok (by have hq := len_eq (by assumption); omega) | exact idx_found (show (0 : Int) ≤ (i0 : Int) by simp_all) | exact cut_ok (by omega) | exact or_ok (idx_ok (by omega)) | (refine or1 (fun hz => pre_ok (by simp at hz; omega) (by omega) (by omega))) | exact pre_ok (by omega) (by omega) (by omega) | (simp_all [idxOk, cutOk, leB]; done) | (simp_all [idxOk, cutOk, leB]; omega) | (simp [idxOk, cutOk, leB] at *; omega) | (have hf0 := h_x0.1; have hf1 := h_x1.1; simp only [leB, decide_eq_true_eq, List.length_append, List.length_cons, List.length_nil]; omega)) (StE.chk (by first | exact idx_ok (by omega) | exact idx_ok (by have hq := len_eq (by assumption); omega) | exact idx_found (show (0 : Int) ≤ (i0 : Int) by simp_all) | exact cut_ok (by omega) | exact or_ok (idx_ok (by omega)) | (refine or1 (fun hz => pre_ok (by simp at hz; omega) (by omega) (by omega))) | exact pre_ok (by omega) (by omega) (by omega) | (simp_all [idxOk, cutOk, leB]; done) | (simp_all [idxOk, cutOk, leB]; omega) | (simp [idxOk, cutOk, leB] at *; omega) | (have hf0 := h_x0.1; have hf1 := h_x1.1; simp only [leB, decide_eq_true_eq, List.length_append, List.length_cons, List.length_nil]; omega)) (StE.ifh (fun hc1 => (StE.ret _)) (fun hc1 => StE.next))))) (fun j hj => by
  simp only [slices_Equal_impl_Ref.l0_s]
  exact Evt.f (ge_lt hj) (Evt.self _))) (fun _ => rfl) (Evt.self _))))
def slices_Equal_int64_v (x0 : List Int) (x1 : List Int) : Bool := (bif ((x0.length : Int) != (x1.length : Int)) then false else (onO ((List.range' 0 (x0.length - 0)).findSome? (fun (i0 : Nat) => (bif ((gt x0 (i0 : Int)) != (gt x1 (i0 : Int))) then (some false) else none))) (fun r => r) true))
theorem slices_Equal_int64_ev (x0 : List Int) (x1 : List Int) (h_x0 : (Lm tr) x0) (h_x1 : (Lm tr) x1) : Evt (fun k => slices_Equal_int64.f k x0 x1) (slices_Equal_int64_v x0 x1) :=
  (Evt.ifh (fun hc2 => (Evt.self _)) (fun hc2 => (Evt.loop (r' := fun r => r) (Evt.srch (L := (fun k i => slices_Equal_int64.l0 x0 x1 k i)) 0 x0.length (by have := h_x0; first | (have := this.1; omega) | omega) (fun (i0 : Nat) => (bif ((gt x0 (i0 : Int)) != (gt x1 (i0 : Int))) then (some false) else none)) (fun i0 hs2 hi2 => by
  have hbn : x0.length ≤ 9223372036854775807 := (by have := h_x0; first | (have := this.1; omega) | omega)
  simp only [slices_Equal_int64.l0_s]
  exact Evt_t2 (int_lt hi2) (StE.chk (by first | exact idx_ok (by omega) | exact idx_ok (by have hq := len_eq (by assumption); omega) | exact idx_found (show (0 : Int) ≤ (i0 : Int) by simp_all) | exact cut_ok (by omega) | exact or_ok (idx_ok (by omega)) | (refine or1 (fun hz => pre_ok (by simp at hz; omega) (by omega) (by omega))) | exact pre_ok (by omega) (by omega) (by omega) | (simp_all [idxOk, cutOk, leB]; done) | (simp_all [idxOk, cutOk, leB]; omega) | (simp [idxOk, cutOk, leB] at *; omega) | (have hf0 := h_x0.1; have hf1 := h_x1.1; simp only [leB, decide_eq_true_eq, List.length_append, List.length_cons, List.length_nil]; omega)) (StE.chk (by first | exact idx_ok (by omega) | exact idx_ok (by have hq := len_eq (by assumption); omega) | exact idx_found (show (0 : Int) ≤ (i0 : Int) by simp_all) | exact cut_ok (by omega) | exact or_ok (idx_ok (by omega)) | (refine or1 (fun hz => pre_ok (by simp at hz; omega) (by omega) (by omega))) | exact pre_ok (by omega) (by omega) (by omega) | (simp_all [idxOk, cutOk, leB]; done) | (simp_all [idxOk, cutOk, leB]; omega) | (simp [idxOk, cutOk, leB] at *; omega) | (have hf0 := h_x0.1; have hf1 := h_x1.1; simp only [leB, decide_eq_true_eq, List.length_append, List.length_cons, List.length_nil]; omega)) (StE.ifh (fun hc1 => (StE.ret _)) (fun hc1 => StE.next))))) (fun j hj => by
  simp only [slices_Equal_int64.l0_s]
  exact Evt.f (ge_lt hj) (Evt.self _))) (fun _ => rfl) (Evt.self _))))
def impl_SameRules_v (x0 : Rule) (x1 : Rule) : Bool := (((slices_Equal_int64_v x0.fKeys x1.fKeys) && (x0.fNeed == x1.fNeed)) && (x0.fAfter == x1.fAfter))
theorem impl_SameRules_ev (x0 : Rule) (x1 : Rule) (h_x0 : smRule x0) (h_x1 : smRule x1) : Evt (fun k => impl_SameRules.f k x0 x1) (impl_SameRules_v x0 x1) :=
  (Evt.bind (slices_Equal_int64_ev x0.fKeys x1.fKeys (h_x0.1) (h_x1.1)) (Evt.self _))
def impl_sameOuts_v (x0 : Out) (x1 : Out) : Bool := ((x0.fValue == x1.fValue) && (bif (x0.fValue == x1.fValue) then (impl_SameRules_v x0.fRule x1.fRule) else default))
theorem impl_sameOuts_ev (x0 : Out) (x1 : Out) (h_x0 : smOut x0) (h_x1 : smOut x1) : Evt (fun k => impl_sameOuts.f k x0 x1) (impl_sameOuts_v x0 x1) :=
  (Evt.bind (Evt.ifh (fun _ => (impl_SameRules_ev x0.fRule x1.fRule (h_x0.2) (h_x1.2))) (fun _ => Evt.self _)) (Evt.self _))
def slices_EqualFunc_impl_Out_v (x0 : List Out) (x1 : List Out) : Bool := (bif ((x0.length : Int) != (x1.length : Int)) then false else (onO ((List.range' 0 (x0.length - 0)).findSome? (fun (i0 : Nat) => (bif !(impl_sameOuts_v (gt x0 (i0 : Int)) (gt x1 (i0 : Int))) then (some false) else none))) (fun r => r) true))
theorem slices_EqualFunc_impl_Out_ev (x0 : List Out) (x1 : List Out) (h_x0 : (Lm smOut) x0) (h_x1 : (Lm smOut) x1) : Evt (fun k => slices_EqualFunc_impl_Out.f k x0 x1) (slices_EqualFunc_impl_Out_v x0 x1) :=
  (Evt.ifh (fun hc2 => (Evt.self _)) (fun hc2 => (Evt.loop (r' := fun r => r) (Evt.srch (L := (fun k i => slices_EqualFunc_impl_Out.l0 x0 x1 k i)) 0 x0.length (by have := h_x0; first | (have := this.1; omega) | omega) (fun (i0 : Nat) => (bif !(impl_sameOuts_v (gt x0 (i0 : Int)) (gt x1 (i0 : Int))) then (some false) else none)) (fun i0 hs2 hi2 => by
  have hbn : x0.length ≤ 9223372036854775807 := (by have := h_x0; first | (have := this.1; omega) | omega)
  simp only [slices_EqualFunc_impl_Out.l0_s]
  exact Evt_t2 (int_lt hi2) (StE.chk (by first | exact idx_ok (by omega) | exact idx_ok (by have hq := len_eq (by assumption); omega) | exact idx_found (show (0 : Int) ≤ (i0 : Int) by simp_all) | exact cut_ok (by omega) | exact or_ok (idx_ok (by omega)) | (refine or1 (fun hz => pre_ok (by simp at hz; omega) (by omega) (by omega))) | exact pre_ok (by omega) (by omega) (by omega) | (simp_all [idxOk, cutOk, leB]; done) | (simp_all [idxOk, cutOk, leB]; omega) | (simp [idxOk, cutOk, leB] at *; omega) | (have hf0 := h_x0.1; have hf1 := h_x1.1; simp only [leB, decide_eq_true_eq, List.length_append, List.length_cons, List.length_nil]; omega)) (StE.chk (by first | exact idx_ok (by omega) | exact idx_ok (by have hq := len_eq (by assumption); omega) | exact idx_found (show (0 : Int) ≤ (i0 : Int) by simp_all) | exact cut_ok (by omega) | exact or_ok (idx_ok (by omega)) | (refine or1 (fun hz => pre_ok (by simp at hz; omega) (by omega) (by omega))) | exact pre_ok (by omega) (by omega) (by omega) | (simp_all [idxOk, cutOk, leB]; done) | (simp_all [idxOk, cutOk, leB]; omega) | (simp [idxOk, cutOk, leB] at *; omega) | (have hf0 := h_x0.1; have hf1 := h_x1.1; simp only [leB, decide_eq_true_eq, List.length_append, List.length_cons, List.length_nil]; omega)) (StE.bind (impl_sameOuts_ev (gt x0 (i0 : Int)) (gt x1 (i0 : Int)) ((h_x0).2 _ (gt_mem (by first | omega | (have hq := len_eq (by assumption); omega) | (have hf0 := h_x0.1; have hf1 := h_x1.1; simp only [leB, decide_eq_true_eq, List.length_append, List.length_cons, List.length_nil]; omega)))) ((h_x1).2 _ (gt_mem (by first | omega | (have hq := len_eq (by assumption); omega) | (have hf0 := h_x0.1; have hf1 := h_x1.1; simp only [leB, decide_eq_true_eq, List.length_append, List.length_cons, List.length_nil]; omega))))) (StE.ifh (fun hc1 => (StE.ret _)) (fun hc1 => StE.next)))))) (fun j hj => by
  simp only [slices_EqualFunc_impl_Out.l0_s]
  exact Evt.f (ge_lt hj) (Evt.self _))) (fun _ => rfl) (Evt.self _))))
def impl_SameTxs_v (x0 : Tx) (x1 : Tx) : Bool := ((((x0.fKind == x1.fKind) && (x0.fMember == x1.fMember)) && (bif ((x0.fKind == x1.fKind) && (x0.fMember == x1.fMember)) then (slices_Equal_impl_Ref_v x0.fIns x1.fIns) else default)) && (bif (((x0.fKind == x1.fKind) && (x0.fMember == x1.fMember)) && (bif ((x0.fKind == x1.fKind) && (x0.fMember == x1.fMember)) then (slices_Equal_impl_Ref_v x0.fIns x1.fIns) else default)) then (slices_EqualFunc_impl_Out_v x0.fOuts x1.fOuts) else default))
theorem impl_SameTxs_ev (x0 : Tx) (x1 : Tx) (h_x0 : smTx x0) (h_x1 : smTx x1) : Evt (fun k => impl_SameTxs.f k x0 x1) (impl_SameTxs_v x0 x1) :=
  (Evt.bind (Evt.ifh (fun _ => (slices_Equal_impl_Ref_ev x0.fIns x1.fIns (h_x0.2.2.1) (h_x1.2.2.1))) (fun _ => Evt.self _)) (Evt.bind (Evt.ifh (fun _ => (slices_EqualFunc_impl_Out_ev x0.fOuts x1.fOuts (h_x0.2.2.2) (h_x1.2.2.2))) (fun _ => Evt.self _)) (Evt.self _)))
def impl_clash_1_v (x0 : Ref) (x1 : Tx) : Bool := (slices_Contains_impl_Ref_v x1.fIns x0)
theorem impl_clash_1_ev (x0 : Ref) (x1 : Tx) (h_x1 : smTx x1) : Evt (fun k => impl_clash_1.f k x0 x1) (impl_clash_1_v x0 x1) :=
  (Evt.bind (slices_Contains_impl_Ref_ev x1.fIns x0 (h_x1.2.2.1)) (Evt.self _))
def slices_IndexFunc_impl_Ref_v (x0 : List Ref) (x1_0 : Tx) : Int := (onO ((List.range' 0 (x0.length - 0)).findSome? (fun (i0 : Nat) => (bif (impl_clash_1_v (gt x0 (i0 : Int)) x1_0) then (some (i0 : Int)) else none))) (fun r => r) (-1))
theorem slices_IndexFunc_impl_Ref_ev (x0 : List Ref) (x1_0 : Tx) (h_x0 : (Lm smRef) x0) (h_x1_0 : smTx x1_0) : Evt (fun k => slices_IndexFunc_impl_Ref.f k x0 x1_0) (slices_IndexFunc_impl_Ref_v x0 x1_0) :=
  (Evt.loop (r' := fun r => r) (Evt.srch (L := (fun k i => slices_IndexFunc_impl_Ref.l0 x0 x1_0 k i)) 0 x0.length (by have := h_x0; first | (have := this.1; omega) | omega) (fun (i0 : Nat) => (bif (impl_clash_1_v (gt x0 (i0 : Int)) x1_0) then (some (i0 : Int)) else none)) (fun i0 hs2 hi2 => by
  have hbn : x0.length ≤ 9223372036854775807 := (by have := h_x0; first | (have := this.1; omega) | omega)
  simp only [slices_IndexFunc_impl_Ref.l0_s]
  exact Evt_t2 (int_lt hi2) (StE.chk (by first | exact idx_ok (by omega) | exact idx_ok (by have hq := len_eq (by assumption); omega) | exact idx_found (show (0 : Int) ≤ (i0 : Int) by simp_all) | exact cut_ok (by omega) | exact or_ok (idx_ok (by omega)) | (refine or1 (fun hz => pre_ok (by simp at hz; omega) (by omega) (by omega))) | exact pre_ok (by omega) (by omega) (by omega) | (simp_all [idxOk, cutOk, leB]; done) | (simp_all [idxOk, cutOk, leB]; omega) | (simp [idxOk, cutOk, leB] at *; omega) | (have hf0 := h_x0.1; have hf1 := h_x1_0.2.2.1.1; have hf2 := h_x1_0.2.2.2.1; simp only [leB, decide_eq_true_eq, List.length_append, List.length_cons, List.length_nil]; omega)) (StE.bind (impl_clash_1_ev (gt x0 (i0 : Int)) x1_0 (h_x1_0)) (StE.ifh (fun hc1 => (StE.ret _)) (fun hc1 => StE.next))))) (fun j hj => by
  simp only [slices_IndexFunc_impl_Ref.l0_s]
  exact Evt.f (ge_lt hj) (Evt.self _))) (fun _ => rfl) (Evt.self _))
def slices_ContainsFunc_impl_Ref_v (x0 : List Ref) (x1_0 : Tx) : Bool := (decide (0 ≤ (slices_IndexFunc_impl_Ref_v x0 x1_0)))
theorem slices_ContainsFunc_impl_Ref_ev (x0 : List Ref) (x1_0 : Tx) (h_x0 : (Lm smRef) x0) (h_x1_0 : smTx x1_0) : Evt (fun k => slices_ContainsFunc_impl_Ref.f k x0 x1_0) (slices_ContainsFunc_impl_Ref_v x0 x1_0) :=
  (Evt.bind (slices_IndexFunc_impl_Ref_ev x0 x1_0 (h_x0) (h_x1_0)) (Evt.self _))
theorem slices_ContainsFunc_impl_Ref_any (x0 : List Ref) (x1_0 : Tx) : slices_ContainsFunc_impl_Ref_v x0 x1_0 = (List.range' 0 (x0.length - 0)).any (fun (i0 : Nat) => (impl_clash_1_v (gt x0 (i0 : Int)) x1_0)) := idx_any _ _
def impl_clash_v (x0 : Tx) (x1 : Tx) : Bool := (slices_ContainsFunc_impl_Ref_v x0.fIns x1)
theorem impl_clash_ev (x0 : Tx) (x1 : Tx) (h_x0 : smTx x0) (h_x1 : smTx x1) : Evt (fun k => impl_clash.f k x0 x1) (impl_clash_v x0 x1) :=
  (Evt.bind (slices_ContainsFunc_impl_Ref_ev x0.fIns x1 (h_x0.2.2.1) (h_x1)) (Evt.self _))
def impl_ClashTx_v (x0 : Tx) (x1 : Tx) : Bool := ((((impl_TxFault_v x0) == 0) && ((bif ((impl_TxFault_v x0) == 0) then (impl_TxFault_v x1) else default) == 0)) && (bif (((impl_TxFault_v x0) == 0) && ((bif ((impl_TxFault_v x0) == 0) then (impl_TxFault_v x1) else default) == 0)) then (impl_clash_v x0 x1) else default))
theorem impl_ClashTx_ev (x0 : Tx) (x1 : Tx) (h_x0 : smTx x0) (h_x1 : smTx x1) : Evt (fun k => impl_ClashTx.f k x0 x1) (impl_ClashTx_v x0 x1) :=
  (Evt.bind (impl_TxFault_ev x0 (h_x0)) (Evt.bind (Evt.ifh (fun _ => (impl_TxFault_ev x1 (h_x1))) (fun _ => Evt.self _)) (Evt.bind (Evt.ifh (fun _ => (impl_clash_ev x0 x1 (h_x0) (h_x1))) (fun _ => Evt.self _)) (Evt.self _))))
theorem txText_same (x0 : Tx) : impl_TxText_v x0 = spec_TxText_v x0 := by
  unfold impl_TxText_v spec_TxText_v
  rw [txFault_same]
  cases hz : spec_l3Fault_v x0 != 0
  · simp only [cond_false]
    unfold txText_v spec_l3Text_v
    rw [mkB_size]
    cases decide (300 < ((txL x0).length : Int)) <;> rfl
  · simp only [cond_true]
theorem code_byte {x : Int} (h : iOk .u8 x) : 0 ≤ x ∧ x ≤ 255 := by
  have h' : (decide (IntKind.u8.min ≤ x) && decide (x ≤ IntKind.u8.max)) = true := h
  rw [Bool.and_eq_true, decide_eq_true_eq, decide_eq_true_eq] at h'
  exact h'
theorem none_refl {n : Nat} {p : Nat → Bool} (h : ∀ i, p i = false) : (List.range' 0 (n - 0)).findSome? (fun (i0 : Nat) => (bif p i0 then (some false) else none)) = none := by
  rw [List.findSome?_eq_none_iff]
  intro i _
  rw [h]; rfl
theorem refs_refl (xs : List Ref) : slices_Equal_impl_Ref_v xs xs = true := by
  unfold slices_Equal_impl_Ref_v
  have e : ((xs.length : Int) != (xs.length : Int)) = false := by simp
  rw [e, cond_false, none_refl (fun i => by simp)]; rfl
theorem ints_refl (xs : List Int) : slices_Equal_int64_v xs xs = true := by
  unfold slices_Equal_int64_v
  have e : ((xs.length : Int) != (xs.length : Int)) = false := by simp
  rw [e, cond_false, none_refl (fun i => by simp)]; rfl
theorem outs_refl (xs : List Out) : slices_EqualFunc_impl_Out_v xs xs = true := by
  unfold slices_EqualFunc_impl_Out_v
  have e : ((xs.length : Int) != (xs.length : Int)) = false := by simp
  rw [e, cond_false, none_refl (fun i => by unfold impl_sameOuts_v impl_SameRules_v; rw [ints_refl]; simp)]; rfl
theorem sameTxs_refl (t : Tx) : impl_SameTxs_v t t = true := by
  unfold impl_SameTxs_v
  rw [refs_refl, outs_refl]; simp
theorem clash_refl (t : Tx) (h0 : spec_l3Fault_v t = 0) : impl_ClashTx_v t t = true := by
  have ht := tx_ok t (by rw [h0]; rfl)
  have hc : impl_clash_v t t = true := by
    unfold impl_clash_v
    rw [slices_ContainsFunc_impl_Ref_any, List.any_eq_true]
    have hl := ht.ins1
    refine ⟨0, by rw [List.mem_range'_1]; omega, ?_⟩
    unfold impl_clash_1_v
    rw [slices_Contains_impl_Ref_any, List.any_eq_true]
    exact ⟨0, by rw [List.mem_range'_1]; omega, by simp⟩
  unfold impl_ClashTx_v
  rw [txFault_same, h0, hc]; rfl
theorem sum_loops (t : Tx) : ∀ (k : Nat) (a i : Int), laws_FnTexts.l0 t k a i = impl_outSum.l0 t k a i
  | 0, a, i => rfl
  | k + 1, a, i => by
    rw [laws_FnTexts.l0_s, impl_outSum.l0_s, sum_loops t k]
theorem same_FnTexts (c : List Int) (o0 : Lok (iOk .u8) c) : Evt (fun k => laws_FnTexts.f k c) true := by
  have eb : Evt (fun k => laws_lwBig.f k c) (decide (1048576 < (c.length : Int))) := Evt.self _
  cases hb : decide (1048576 < (c.length : Int))
  · have hc : codeOK c := ⟨by have := of_decide_eq_false hb; omega, fun x hx => code_byte (o0.2 x hx)⟩
    obtain ⟨text, e1, hs⟩ := DrawParseTx_ev c hc
    obtain ⟨t, e4, htm⟩ := DrawTxText_ev c hc
    obtain ⟨p, e2, hp⟩ := impl_ParseTx_ex text (by omega)
    have rest : Evt (fun k => ((spec_DrawTxText.f k c).bind fun t7923 => ((impl_TxText.f k t7923).bind fun t7935 => (bif (t7935.fCode != 0) then ((spec_TxText.f k t7923).bind fun t7951 => ((bif (t7951.fCode == t7935.fCode) then impl_TxFault.f k t7923 else some default).bind fun t7953 => ((bif (t7951.fCode == t7935.fCode) then spec_TxFault.f k t7923 else some default).bind fun t7955 => some ((t7951.fCode == t7935.fCode) && (t7953 == t7955))))) else ((impl_OutSum.f k t7923).bind fun t7963 => ((laws_FnTexts.l0 t7923 k 0 0).bind (fun a7979 => ((impl_ParseTx.f k t7935.fText).bind fun t7993 => ((impl_SameTxs.f k t7993.fTx t7923).bind fun t7999 => ((bif ((t7999 && (t7963.fCode == 0)) && (t7963.fValue == a7979)) then impl_ClashTx.f k t7923 t7923 else some default).bind fun t8001 => ((bif (((t7999 && (t7963.fCode == 0)) && (t7963.fValue == a7979)) && t8001) then impl_TxFault.f k t7923 else some default).bind fun t8003 => some ((((t7999 && (t7963.fCode == 0)) && (t7963.fValue == a7979)) && t8001) && (t8003 == 0))))))))))))) true := by
      refine Evt.bind e4 (Evt.bind (impl_TxText_ev t htm) ?_)
      cases hf : (impl_TxText_v t).fCode != 0
      · have hf0 : spec_l3Fault_v t = 0 := by
          cases hz : spec_l3Fault_v t != 0
          · simpa using hz
          · have : (impl_TxText_v t).fCode = spec_l3Fault_v t := by unfold impl_TxText_v; rw [txFault_same, hz]; rfl
            rw [this, hz] at hf; cases hf
        have hfz : (spec_l3Fault_v t != 0) = false := by rw [hf0]; rfl
        have et : impl_TxText_v t = ⟨(txText_v t).2, (txText_v t).1⟩ := by unfold impl_TxText_v; rw [txFault_same, hfz]; rfl
        have hl : (txL t).length ≤ 300 ∧ txText_v t = (mkB (txL t), 0) := by
          rw [et] at hf
          unfold txText_v at hf ⊢
          cases hd : decide (300 < ((txL t).length : Int))
          · exact ⟨by have := of_decide_eq_false hd; omega, rfl⟩
          · rw [hd] at hf; cases hf
        rw [et, hl.2]
        have ep : Evt (fun k => impl_ParseTx.f k (mkB (txL t))) ⟨0, t⟩ := Evt.bind (readTx_of t hf0 hl.1) (Evt.f rfl (Evt.self _))
        have eo := impl_OutSum_ev t htm
        have ev : impl_OutSum_v t = ⟨0, impl_outSum_v t⟩ := by unfold impl_OutSum_v; rw [txFault_same, hfz]; rfl
        rw [ev] at eo
        have es : Evt (fun k => laws_FnTexts.l0 t k 0 0) (impl_outSum_v t) := by
          have h1 := impl_outSum_ev t htm
          obtain ⟨K, hK⟩ := h1
          refine ⟨K, fun k hk => ?_⟩
          show laws_FnTexts.l0 t k 0 0 = _
          rw [sum_loops]
          have := hK k hk
          replace this : (impl_outSum.l0 t k 0 0).bind (fun a => some a) = some (impl_outSum_v t) := this
          cases hq : impl_outSum.l0 t k 0 0 with
          | none => rw [hq] at this; cases this
          | some z => rw [hq] at this; exact this
        have ec := impl_ClashTx_ev t t htm htm
        rw [clash_refl t hf0] at ec
        have em := impl_SameTxs_ev t t htm htm
        rw [sameTxs_refl] at em
        have eF := impl_TxFault_ev t htm
        rw [txFault_same, hf0] at eF
        exact Evt.f rfl (Evt.bind eo (Evt.bind es (Evt.bind ep (Evt.bind em (Evt.bind (Evt.t (by simp) ec) (Evt.bind (Evt.t (by simp) eF) (Evt.ret (by simp))))))))
      · have e5 := spec_TxText_ev t htm
        rw [← txText_same] at e5
        have e6 := impl_TxFault_ev t htm
        rw [txFault_same] at e6
        exact Evt.t rfl (Evt.bind e5 (Evt.bind (Evt.t (by simp) e6) (Evt.bind (Evt.t (by simp) (spec_TxFault_ev t htm)) (Evt.ret (by unfold spec_TxFault_v; simp)))))
    rcases hp with ⟨rfl, hno⟩ | ⟨q, hq, hl, hx, rfl⟩
    · obtain ⟨r, e3, _, hr⟩ := spec_ParseTx_ex text (by omega)
      have hr5 : r = ⟨5, zTx⟩ := by
        rcases hr with ⟨h, _⟩ | ⟨b', h1, h2, h3, _⟩
        · exact h
        · exact absurd h3 (hno b' h1 h2)
      rw [hr5] at e3
      exact Evt.bind eb (Evt.f hb (Evt.bind e1 (Evt.bind e2 (Evt.bind (Evt.f rfl (Evt.self _)) (Evt.bind (Evt.t rfl e3) (Evt.f rfl rest))))))
    · have hqb := tx_ok q (by rw [hq]; rfl)
      have et := impl_TxText_ev q (okTx_sm hqb)
      have hd : decide (300 < ((txL q).length : Int)) = false := by simp; omega
      have ev : impl_TxText_v q = ⟨0, text⟩ := by unfold impl_TxText_v; rw [txFault_same, hq]; unfold txText_v; rw [hd, hx]; rfl
      rw [ev] at et
      have hse : (!sEq text text) = false := by rw [sEq_refl]; rfl
      have hi := hqb.ins1
      have hi0 : ((q.fIns.length : Int) == 0) = false := beq_false_of_ne (by omega)
      refine Evt.bind eb (Evt.f hb (Evt.bind e1 (Evt.bind e2 (Evt.bind (Evt.t rfl et) (Evt.bind (Evt.f ?_ (Evt.self _)) (Evt.f ?_ rest))))))
      · show ((!(((0 : Int) == 0) && (!sEq text text))) && ((0 : Int) != 0)) = false
        simp
      · show (((((0 : Int) == 0) && (!sEq text text)) || (((0 : Int) != 0) && _)) || (((0 : Int) == 0) && ((q.fIns.length : Int) == 0))) = false
        rw [hse, hi0]; simp
  · exact Evt.bind eb (Evt.t hb (Evt.self _))
end Go.Proofs.YtmaolhocmkkmjaaGreatDoor.Zk
namespace Go.Proofs.YtmaolhocmkkmjaaGreatDoor.Pure
open Go Go.Proofs.YtmaolhocmkkmjaaGreatDoor.Zk
theorem FnTexts (x0 : List Int) (o0 : Lok (iOk .u8) x0) : ∃ k, laws_FnTexts.f k x0 = some true := (same_FnTexts x0 o0).get
end Go.Proofs.YtmaolhocmkkmjaaGreatDoor.Pure
