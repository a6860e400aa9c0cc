/- The plain law of FnMembers: what the program's function and the reference's compute is the same. No condition. -/
import Derived.Test.YtbbcabpnkdilgaaZkPure
import Derived.Test.YtbbcabpnkdilgaaFnMembersZkOpn
import Derived.Test.YtbbcabpnkdilgaaFnMembersZkF10
namespace Go.Proofs.Ytbbcabpnkdilgaa.Zk
open Go Go.RowKit Go.IntWalk
set_option linter.unusedVariables false
set_option linter.unusedSimpArgs false

abbrev tr {α : Type} (x : α) : Prop := True
def Lm {α : Type} (sm : α → Prop) (xs : List α) : Prop := xs.length ≤ 1048576 ∧ ∀ x ∈ xs, sm x
theorem gt_mem {α : Type} [Inhabited α] {xs : List α} {i : Nat} (h : i < xs.length) : gt xs (i : Int) ∈ xs := by
  rw [gt_eq (i := (i : Int)) (by simpa using h)]
  exact List.getElem_mem _
theorem Evt_t2 {β : Type} {f g nxt : Nat → Option (β ⊕ Unit)} {c : Bool} {v : Option β} (hc : c = true) (h : StE f nxt v) : StE (fun n => bif c then f n else g n) nxt v := by subst hc; exact h
theorem Lm_take {α : Type} {sm : α → Prop} {xs : List α} {n : Nat} (h : Lm sm xs) : Lm sm (xs.take n) := ⟨by have := h.1; rw [List.length_take]; omega, fun x hx => h.2 x (List.mem_of_mem_take hx)⟩
theorem found_any {β γ : Type} (l : List Nat) (p : Nat → Bool) (a : β) (r : β → γ) (c : γ) : onO (l.findSome? fun i => bif p i then some a else none) r c = bif l.any p then r a else c := by
  induction l with
  | nil => rfl
  | cons i l ih =>
    rw [List.findSome?_cons, List.any_cons]
    cases p i
    · simpa using ih
    · rfl
theorem idx_any (l : List Nat) (p : Nat → Bool) : decide (0 ≤ onO (l.findSome? fun i => bif p i then some (i : Int) else none) (fun r => r) (-1)) = l.any p := by
  induction l with
  | nil => rfl
  | cons i l ih =>
    rw [List.findSome?_cons, List.any_cons]
    cases p i
    · simpa using ih
    · simp [onO]
theorem rng1 {a lo hi : Int} : (decide (a < lo) || decide (hi < a)) = !(decide (lo ≤ a) && decide (a ≤ hi)) := by
  by_cases h1 : a < lo
  · have : ¬ lo ≤ a := by omega
    simp [h1, this]
  · have h2 : lo ≤ a := by omega
    by_cases h3 : hi < a
    · have : ¬ a ≤ hi := by omega
      simp [h1, h2, h3, this]
    · have : a ≤ hi := by omega
      simp [h1, h2, h3, this]
theorem fs_congr {β : Type} {l : List Nat} {f g : Nat → Option β} (h : ∀ i ∈ l, f i = g i) : l.findSome? f = l.findSome? g := by
  induction l with
  | nil => rfl
  | cons i l ih => rw [List.findSome?_cons, List.findSome?_cons, h i (by simp), ih fun j hj => h j (by simp [hj])]
theorem any_congr' {l : List Nat} {f g : Nat → Bool} (h : ∀ i ∈ l, f i = g i) : l.any f = l.any g := by
  induction l with
  | nil => rfl
  | cons i l ih => rw [List.any_cons, List.any_cons, h i (by simp), ih fun j hj => h j (by simp [hj])]
theorem in_range {i n : Nat} (h : i ∈ List.range' 0 (n - 0)) : i < n := by
  have := List.mem_range'_1.1 h
  omega
theorem gt_take {α : Type} [Inhabited α] {xs : List α} {n j : Nat} (h : j < n) : gt (xs.take n) (j : Int) = gt xs (j : Int) := by
  unfold gt
  have e : ((j : Int)).toNat = j := by simp
  rw [e, List.getD_eq_getElem?_getD, List.getD_eq_getElem?_getD, List.getElem?_take, if_pos h]
theorem any_take {α : Type} [Inhabited α] {xs : List α} {i : Nat} (h : i ≤ xs.length) (p : α → Bool) :
    (List.range' 0 ((xs.take i).length - 0)).any (fun j => p (gt (xs.take i) (j : Int))) = (List.range' 0 (i - 0)).any (fun j => p (gt xs (j : Int))) := by
  have e : (xs.take i).length = i := by rw [List.length_take]; omega
  rw [e]
  exact any_congr' fun j hj => by rw [gt_take (in_range hj)]
theorem bifb {b : Bool} : (bif b then true else false) = b := by cases b <;> rfl
theorem idx_found {n : Nat} {p : Nat → Bool} (h : 0 ≤ onO ((List.range' 0 (n - 0)).findSome? fun i => bif p i then some (i : Int) else none) (fun r => r) (-1)) : idxOk (onO ((List.range' 0 (n - 0)).findSome? fun i => bif p i then some (i : Int) else none) (fun r => r) (-1)) n = true := by
  have key : ∀ l : List Nat, (∀ i ∈ l, i < n) → 0 ≤ onO (l.findSome? fun i => bif p i then some (i : Int) else none) (fun r => r) (-1) → idxOk (onO (l.findSome? fun i => bif p i then some (i : Int) else none) (fun r => r) (-1)) n = true := by
    intro l
    induction l with
    | nil => intro _ h; exact absurd h (by show ¬ (0 : Int) ≤ -1; omega)
    | cons i l ih =>
      intro hl h
      rw [List.findSome?_cons] at h ⊢
      cases hp : p i
      · rw [hp] at h; exact ih (fun j hj => hl j (List.mem_cons_of_mem _ hj)) h
      · exact idx_ok (hl i (List.mem_cons_self ..))
  exact key _ (fun i hi => in_range hi) h
theorem cut_ok {i n : Nat} (h : i ≤ n) : cutOk (i : Int) n = true := by unfold cutOk; simp; omega
theorem len_eq {a b : Nat} (h : ((a : Int) != (b : Int)) = false) : a = b := by
  by_cases e : a = b
  · exact e
  · have : ((a : Int) != (b : Int)) = true := by simp; omega
    rw [this] at h; cases h

abbrev smRef (x : Ref) : Prop := tr x.fTx ∧ tr x.fAt
abbrev smMember (x : Member) : Prop := tr x.fKey ∧ smRef x.fRef
abbrev smRule (x : Rule) : Prop := (Lm tr) x.fKeys ∧ tr x.fNeed ∧ tr x.fAfter
abbrev smOut (x : Out) : Prop := tr x.fValue ∧ smRule x.fRule
abbrev smTx (x : Tx) : Prop := tr x.fKind ∧ tr x.fMember ∧ (Lm smRef) x.fIns ∧ (Lm smOut) x.fOuts
theorem Evt.gatherL {σ : Type} {L : Nat → List σ → Int → Option (List σ)} (n : Nat) (hn : n ≤ 1048576) (st : List σ → Nat → List σ)
    (len : ∀ i, i < n → ∀ a, a.length ≤ i → (st a i).length ≤ i + 1)
    (step : ∀ i, i < n → ∀ a, a.length ≤ i → ∀ o, Evt (fun k => L k (st a i) (wrap64 ((i : Int) + 1))) o → Evt (fun k => L (k + 1) a (i : Int)) o)
    (done : ∀ (i : Nat) a, n ≤ i → Evt (fun k => L (k + 1) a (i : Int)) a) : Evt (fun k => L k [] 0) ((List.range' 0 (n - 0)).foldl st []) := by
  have key : ∀ d i (a : List σ), (i + d = n ∨ n ≤ i ∧ d = 0) → a.length ≤ i → Evt (fun k => L k a (i : Int)) ((List.range' i d).foldl st a) := by
    intro d
    induction d with
    | zero => intro i a hi _; exact Evt.s (done i a (by omega))
    | succ d ih =>
      intro i a hi ha
      rw [List.range'_succ, List.foldl_cons]
      refine Evt.s (step i (by omega) a ha _ ?_)
      rw [w64 (by omega : i < n) (by omega)]
      exact ih (i + 1) (st a i) (by omega) (len i (by omega) a ha)
  exact key (n - 0) 0 [] (by omega) (by simp)
theorem cut_next {t : Int} {n : Nat} (h : idxOk t n = true) (hn : n ≤ 1048576) : cutOk (wrap64 (t + 1)) n = true := by
  have h1 := idx_lo h
  have h2 := idx_hi h
  rw [wrap64_in _ (by omega)]
  unfold cutOk; simp; omega
theorem cut_self {t : Int} {n : Nat} (h : idxOk t n = true) (hn : n ≤ 1048576) : cutOk t (wrap64 (t + 1)).toNat = true := by
  have h1 := idx_lo h
  have h2 := idx_hi h
  rw [wrap64_in _ (by omega)]
  unfold cutOk; simp; omega
theorem Lm_sub {α : Type} {sm : α → Prop} {xs ys : List α} (h : Lm sm xs) (s : ys.Sublist xs) : Lm sm ys := ⟨Nat.le_trans s.length_le h.1, fun x hx => h.2 x (s.subset hx)⟩
theorem fs_all {β : Type} {p : Nat → Option β} {n : Nat} (h : (List.range' 0 (n - 0)).findSome? p = none) : ∀ i, i < n → p i = none := by
  intro i hi
  rw [List.findSome?_eq_none_iff] at h
  exact h i (by rw [List.mem_range']; exact ⟨i, by omega, by omega⟩)
theorem onO_zero {l : List Nat} {p : Nat → Option Int} {c : Int} (h : onO (l.findSome? p) (fun r => r) c = 0) (hp : ∀ i, p i ≠ some 0) : l.findSome? p = none ∧ c = 0 := by
  cases hf : l.findSome? p with
  | none => rw [hf] at h; exact ⟨rfl, h⟩
  | some r =>
    rw [hf] at h
    obtain ⟨i, _, hi⟩ := List.exists_of_findSome?_eq_some hf
    have : r = 0 := h
    subst this
    exact absurd hi (hp i)
def codeOK (c : List Int) : Prop := c.length ≤ 1048576 ∧ ∀ x ∈ c, 0 ≤ x ∧ x ≤ 255
theorem source_ev (c : List Int) : Evt (fun k => spec_l1Source.f k c) 0 := Evt.self _
theorem w_in {a : Int} (h : 0 ≤ a ∧ a ≤ 1000000000000) : wrap64 a = a := wrap64_in _ (by omega)
theorem gt_code {c : List Int} (hc : codeOK c) {i : Int} (h0 : 0 ≤ i) (h1 : i < c.length) : 0 ≤ gt c i ∧ gt c i ≤ 255 := by
  have e : gt c i = c[i.toNat]'(by omega) := gt_eq (by omega)
  rw [e]; exact hc.2 _ (List.getElem_mem _)
theorem next_ev (c : List Int) (a n : Int) (hc : codeOK c) (ha : 0 ≤ a ∧ a ≤ 1000000) (hn : 1 ≤ n ∧ n ≤ 1000000) : ∃ v, Evt (fun k => spec_l1Next.f k ⟨c, a⟩ n) (v, a + 1) ∧ 0 ≤ v ∧ v < n := by
  have e1 : wrap64 (a + 1) = a + 1 := w_in (by omega)
  have e2 : wrap64 (a + 1 - 1) = a := by rw [show a + 1 - 1 = a by omega]; exact w_in (by omega)
  have hn1 : decide (n < 1) = false := by simp; omega
  have hn0 : (n != 0) = true := by rw [bne_iff_ne]; omega
  unfold spec_l1Next.f
  simp only [e1, e2]
  by_cases hl : c.length = 0
  · have e3 : wrap64 (a * 7) = a * 7 := w_in (by omega)
    refine ⟨Int.tmod (a * 7) n, Evt.f hn1 (Evt.t (by rw [hl]; rfl) (Evt.chk hn0 (Evt.ret (by rw [e3])))), Int.tmod_nonneg _ (by omega), Int.tmod_lt_of_pos _ (by omega)⟩
  · have hlp : (0 : Int) < (c.length : Int) := by omega
    have hcl := hc.1
    have hl0 : ((c.length : Int) == 0) = false := by simpa using hl
    have hln : ((c.length : Int) != 0) = true := by rw [bne_iff_ne]; omega
    have i0 := Int.tmod_nonneg (a := a) (c.length : Int) ha.1
    have i1 := Int.tmod_lt_of_pos a hlp
    have g1 := gt_code hc i0 i1
    have hq : IntKind.i64.wrap (Int.tdiv a (c.length : Int)) = a / (c.length : Int) := i64_quo _ _ ⟨ha.1, by omega, by omega⟩
    have q0 : 0 ≤ a / (c.length : Int) := Int.ediv_nonneg ha.1 (by omega)
    have q1 : a / (c.length : Int) ≤ a := Int.ediv_le_self _ ha.1
    have hi : idxOk (Int.tmod a (c.length : Int)) c.length = true := by unfold idxOk; simp; omega
    have ea : wrap64 (gt c (Int.tmod a (c.length : Int))) = gt c (Int.tmod a (c.length : Int)) := w_in (by omega)
    have eb : wrap64 ((a / (c.length : Int)) * 37) = (a / (c.length : Int)) * 37 := w_in (by omega)
    have ec : wrap64 (gt c (Int.tmod a (c.length : Int)) + (a / (c.length : Int)) * 37) = gt c (Int.tmod a (c.length : Int)) + (a / (c.length : Int)) * 37 := w_in (by omega)
    simp only [hq, ea, eb, ec]
    by_cases h2 : 200 < n
    · have e3 : wrap64 (a + 1) = a + 1 := e1
      have j0 := Int.tmod_nonneg (a := a + 1) (c.length : Int) (by omega)
      have j1 := Int.tmod_lt_of_pos (a + 1) hlp
      have g2 := gt_code hc j0 j1
      have hj : idxOk (Int.tmod (a + 1) (c.length : Int)) c.length = true := by unfold idxOk; simp; omega
      have w1 := w_in (a := (gt c (Int.tmod a (c.length : Int)) + (a / (c.length : Int)) * 37) * 251) (by omega)
      have w2 : wrap64 (gt c (Int.tmod (a + 1) (c.length : Int))) = gt c (Int.tmod (a + 1) (c.length : Int)) := w_in (by omega)
      have w3 := w_in (a := gt c (Int.tmod (a + 1) (c.length : Int)) * 13) (by omega)
      simp only [w1, w2, w3]
      have w4 := w_in (a := (gt c (Int.tmod a (c.length : Int)) + (a / (c.length : Int)) * 37) * 251 + gt c (Int.tmod (a + 1) (c.length : Int)) * 13) (by omega)
      simp only [w4]
      have w5 := w_in (a := (gt c (Int.tmod a (c.length : Int)) + (a / (c.length : Int)) * 37) * 251 + gt c (Int.tmod (a + 1) (c.length : Int)) * 13 + a) (by omega)
      simp only [w5]
      exact ⟨_, Evt.f hn1 (Evt.f hl0 (Evt.chk hln (Evt.chk hi (Evt.chk hln (Evt.t (decide_eq_true h2) (Evt.chk hln (Evt.chk hj (Evt.chk hn0 (Evt.self _))))))))), Int.tmod_nonneg _ (by omega), Int.tmod_lt_of_pos _ (by omega)⟩
    · exact ⟨_, Evt.f hn1 (Evt.f hl0 (Evt.chk hln (Evt.chk hi (Evt.chk hln (Evt.f (decide_eq_false h2) (Evt.chk hn0 (Evt.self _))))))), Int.tmod_nonneg _ (by omega), Int.tmod_lt_of_pos _ (by omega)⟩
def spec_l6At_v (x0 : List Member) (x1 : Int) : Int := (onO ((List.range' 0 (x0.length - 0)).findSome? (fun (i0 : Nat) => (bif (((gt x0 (i0 : Int)).fKey) == x1) then (some (i0 : Int)) else none))) (fun r => r) (-1))
theorem spec_l6At_ev (x0 : List Member) (x1 : Int) (h_x0 : (Lm smMember) x0) : Evt (fun k => spec_l6At.f k x0 x1) (spec_l6At_v x0 x1) :=
  (Evt.loop (r' := fun r => r) (Evt.srch (L := (fun k i => spec_l6At.l0 x0 x1 k i)) 0 x0.length (by have := h_x0; first | (have := this.1; omega) | omega) (fun (i0 : Nat) => (bif (((gt x0 (i0 : Int)).fKey) == x1) then (some (i0 : Int)) else none)) (fun i0 hs2 hi2 => by
  have hbn : x0.length ≤ 9223372036854775807 := (by have := h_x0; first | (have := this.1; omega) | omega)
  simp only [spec_l6At.l0_s]
  exact Evt_t2 (int_lt hi2) (StE.chk (by first | exact idx_ok (by omega) | exact idx_ok (by have hq := len_eq (by assumption); omega) | exact idx_found (show (0 : Int) ≤ (i0 : Int) by simp_all) | exact cut_ok (by omega) | exact or_ok (idx_ok (by omega)) | (refine or1 (fun hz => pre_ok (by simp at hz; omega) (by omega) (by omega))) | exact pre_ok (by omega) (by omega) (by omega) | (simp_all [idxOk, cutOk, leB]; done) | (simp_all [idxOk, cutOk, leB]; omega) | (simp [idxOk, cutOk, leB] at *; omega) | (have hf0 := h_x0.1; simp only [leB, decide_eq_true_eq, List.length_append, List.length_cons, List.length_nil]; omega)) (StE.ifh (fun hc1 => (StE.ret _)) (fun hc1 => StE.next)))) (fun j hj => by
  simp only [spec_l6At.l0_s]
  exact Evt.f (ge_lt hj) (Evt.self _))) (fun _ => rfl) (Evt.self _))
def jl (key : Int) : List Member → Nat → Nat → Nat
  | [], _, a => a
  | m :: r, i, a => jl key r (i + 1) (bif decide (m.fKey < key) then i + 1 else a)
theorem jl_le (key : Int) : ∀ (xs : List Member) (i a : Nat), a ≤ i → jl key xs i a ≤ i + xs.length
  | [], i, a, h => by unfold jl; simp; exact h
  | m :: r, i, a, h => by
    unfold jl
    have := jl_le key r (i + 1) (bif decide (m.fKey < key) then i + 1 else a) (by cases decide (m.fKey < key) <;> simp <;> omega)
    simp only [List.length_cons]; omega
def spec_l6Join_v (x0 : List Member) (x1 : Member) : (List Member) × Int :=
  bif decide (0 ≤ spec_l6At_v x0 x1.fKey) then ([], 7) else bif x0.any (fun m => (m.fRef.fTx == x1.fRef.fTx) && (m.fRef.fAt == x1.fRef.fAt)) then ([], 7) else bif decide (8 ≤ (x0.length : Int)) then ([], 2) else (x0.take (jl x1.fKey x0 0 0) ++ [x1] ++ x0.drop (jl x1.fKey x0 0 0), 0)
theorem l6Join_loop (x0 : List Member) (x1 : Member) (hl : x0.length ≤ 1048576) : ∀ (d j a : Nat), j + d = x0.length → Evt (fun k => spec_l6Join.l0 x0 x1 k (a : Int) (j : Int)) (bif (x0.drop j).any (fun m => (m.fRef.fTx == x1.fRef.fTx) && (m.fRef.fAt == x1.fRef.fAt)) then .inl (([] : List Member), 7) else .inr ((jl x1.fKey (x0.drop j) j a : Nat) : Int))
  | 0, j, a, h => by
    refine Evt.s ?_
    simp only [spec_l6Join.l0_s]
    rw [List.drop_of_length_le (by omega)]
    exact Evt.f (decide_eq_false (by omega)) (Evt.self _)
  | d + 1, j, a, h => by
    have hj : j < x0.length := by omega
    have e0 : x0.drop j = gt x0 (j : Int) :: x0.drop (j + 1) := by rw [gt_eq (by simpa using hj)]; exact List.drop_eq_getElem_cons hj
    have ew : wrap64 ((j : Int) + 1) = ((j + 1 : Nat) : Int) := by rw [wrap64_in _ (by omega)]; omega
    refine Evt.s ?_
    simp only [spec_l6Join.l0_s, ew]
    refine Evt.t (int_lt hj) (Evt.chk (idx_ok hj) ?_)
    rw [e0, List.any_cons]
    unfold jl
    cases hr : ((gt x0 (j : Int)).fRef.fTx == x1.fRef.fTx) && ((gt x0 (j : Int)).fRef.fAt == x1.fRef.fAt)
    · rw [Bool.false_or]
      refine Evt.f rfl (Evt.chk (idx_ok hj) ?_)
      cases hk : decide ((gt x0 (j : Int)).fKey < x1.fKey)
      · exact Evt.f rfl (l6Join_loop x0 x1 hl d (j + 1) a (by omega))
      · exact Evt.t rfl (l6Join_loop x0 x1 hl d (j + 1) (j + 1) (by omega))
    · exact Evt.t rfl (Evt.self _)
theorem spec_l6Join_ev (x0 : List Member) (x1 : Member) (h_x0 : Lm smMember x0) : Evt (fun k => spec_l6Join.f k x0 x1) (spec_l6Join_v x0 x1) := by
  have hl := h_x0.1
  refine Evt.bind (spec_l6At_ev x0 x1.fKey h_x0) ?_
  unfold spec_l6Join_v
  cases decide (0 ≤ spec_l6At_v x0 x1.fKey)
  · refine Evt.f rfl (Evt.bind (l6Join_loop x0 x1 hl x0.length 0 0 (by omega)) ?_)
    rw [List.drop_zero]
    cases x0.any (fun m => (m.fRef.fTx == x1.fRef.fTx) && (m.fRef.fAt == x1.fRef.fAt))
    · show Evt (fun k => bif decide (8 ≤ (x0.length : Int)) then _ else _) _
      cases h8 : decide (8 ≤ (x0.length : Int))
      · have h9 := of_decide_eq_false h8
        have hj := jl_le x1.fKey x0 0 0 (Nat.le_refl _)
        have hc : cutOk ((jl x1.fKey x0 0 0 : Nat) : Int) x0.length = true := cut_ok (by omega)
        refine Evt.f rfl (Evt.chk hc (Evt.chk (decide_eq_true ?_) (Evt.chk hc (Evt.chk (decide_eq_true ?_) (Evt.chk (decide_eq_true ?_) ?_)))))
        · simp; omega
        · simp; omega
        · simp; omega
        · simp only [Int.toNat_natCast, List.nil_append]
          exact Evt.self _
      · exact Evt.t rfl (Evt.self _)
    · exact Evt.self _
  · exact Evt.t rfl (Evt.self _)
theorem Evt.bindc {A B γ : Type} {F : Nat → Option (A × B)} {G : Nat → A → B → Option γ} {a : A} {b : B} {r : γ} (h : Evt F (a, b)) (h2 : Evt (fun k => G k a b) r) : Evt (fun k => (F k).bind (cur2 (G k))) r := Evt.bind h h2
theorem Evt.bindc5 {A B C D E γ : Type} {F : Nat → Option (A × B × C × D × E)} {G : Nat → A → B → C → D → E → Option γ} {a : A} {b : B} {c : C} {d : D} {e : E} {r : γ} (h : Evt F (a, b, c, d, e)) (h2 : Evt (fun k => G k a b c d e) r) : Evt (fun k => (F k).bind (cur5 (G k))) r := Evt.bind h h2
theorem spec_l6Join_len (x0 : List Member) (x1 : Member) (h : x0.length ≤ 8) : (spec_l6Join_v x0 x1).1.length ≤ 8 := by
  unfold spec_l6Join_v
  cases decide (0 ≤ spec_l6At_v x0 x1.fKey)
  · cases x0.any (fun m => (m.fRef.fTx == x1.fRef.fTx) && (m.fRef.fAt == x1.fRef.fAt))
    · cases h8 : decide (8 ≤ (x0.length : Int))
      · have h9 := of_decide_eq_false h8
        show (List.take _ x0 ++ [_] ++ List.drop _ x0).length ≤ _
        simp; omega
      · exact Nat.zero_le _
    · exact Nat.zero_le _
  · exact Nat.zero_le _
theorem sm_members {xs : List Member} (h : xs.length ≤ 1048576) : Lm smMember xs := ⟨h, fun x _ => by repeat' (first | trivial | constructor)⟩
theorem l6Right_loop (c : List Int) (z : l1Src) (hz : z.fCode = c) (hc : codeOK c) : ∀ (d : Nat) (a : Int) (xs : List Member), 0 ≤ a → a + 2 * d ≤ 900000 → xs.length ≤ 8 → ∃ a' xs', Evt (fun k => spec_l6Right.l0 z k a xs (d : Int)) (a', xs') ∧ a ≤ a' ∧ a' ≤ a + 2 * d ∧ xs'.length ≤ 8
  | 0, a, xs, h0, h1, h2 => by
    refine ⟨a, xs, Evt.s ?_, by omega, by omega, h2⟩
    simp only [spec_l6Right.l0_s]
    exact Evt.f rfl (Evt.self _)
  | d + 1, a, xs, h0, h1, h2 => by
    obtain ⟨v, ev, v0, v1⟩ := next_ev c a 6 hc (by omega) (by omega)
    obtain ⟨u, eu, u0, u1⟩ := next_ev c (a + 1) 9 hc (by omega) (by omega)
    have hd : decide ((0 : Int) < ((d + 1 : Nat) : Int)) = true := decide_eq_true (by omega)
    have ew : wrap64 (((d + 1 : Nat) : Int) - 1) = (d : Int) := by rw [wrap64_in _ (by omega)]; omega
    have ej := spec_l6Join_ev xs ⟨wrap64 (1 + v), ⟨wrap64 (1 + u), 0⟩⟩ (sm_members (by omega))
    cases hq : (spec_l6Join_v xs ⟨wrap64 (1 + v), ⟨wrap64 (1 + u), 0⟩⟩).2 == 0
    · obtain ⟨a', xs', e, q1, q2, q3⟩ := l6Right_loop c z hz hc d (a + 1 + 1) xs (by omega) (by omega) h2
      refine ⟨a', xs', Evt.s ?_, by omega, by omega, q3⟩
      simp only [spec_l6Right.l0_s, hz, ew]
      exact Evt.t hd (Evt.bind ev (Evt.bind eu (Evt.bind ej (Evt.f hq e))))
    · obtain ⟨a', xs', e, q1, q2, q3⟩ := l6Right_loop c z hz hc d (a + 1 + 1) _ (by omega) (by omega) (spec_l6Join_len xs ⟨wrap64 (1 + v), ⟨wrap64 (1 + u), 0⟩⟩ h2)
      refine ⟨a', xs', Evt.s ?_, by omega, by omega, q3⟩
      simp only [spec_l6Right.l0_s, hz, ew]
      exact Evt.t hd (Evt.bind ev (Evt.bind eu (Evt.bind ej (Evt.t hq e))))
theorem l6Right_ev (c : List Int) (a : Int) (hc : codeOK c) (h0 : 0 ≤ a) (h1 : a ≤ 800000) : ∃ xs a', Evt (fun k => spec_l6Right.f k ⟨c, a⟩) (xs, a') ∧ a ≤ a' ∧ a' ≤ a + 30 ∧ xs.length ≤ 8 := by
  obtain ⟨v, e, v0, v1⟩ := next_ev c a 9 hc (by omega) (by omega)
  obtain ⟨n, rfl⟩ : ∃ n : Nat, v = n := ⟨v.toNat, by omega⟩
  obtain ⟨a', xs, e2, r1, r2, r3⟩ := l6Right_loop c ⟨c, a⟩ rfl hc n (a + 1) [] (by omega) (by omega) (by simp)
  exact ⟨xs, a', Evt.bindc (Evt.bind e e2) (Evt.self _), by omega, by omega, r3⟩
theorem pick_ev (c : List Int) (a : Int) (l : List Int) (hc : codeOK c) (ha : 0 ≤ a ∧ a ≤ 1000000) (hl : 1 ≤ l.length ∧ l.length ≤ 1000000) : ∃ v, Evt (fun k => spec_l1Pick.f k ⟨c, a⟩ l) (v, a + 1) ∧ v ∈ l := by
  obtain ⟨v, e, h0, h1⟩ := next_ev c a (l.length : Int) hc ha (by omega)
  refine ⟨gt l v, Evt.bind e (Evt.chk (by unfold idxOk; simp; omega) (Evt.self _)), ?_⟩
  have e2 : gt l v = l[v.toNat]'(by omega) := gt_eq (by omega)
  rw [e2]; exact List.getElem_mem _
theorem leB_mk2 {a b : Nat} (h : a ≤ b) : leB a b = true := decide_eq_true h
theorem l6Bent_ev (c : List Int) (a : Int) (hc : codeOK c) (h0 : 0 ≤ a) (h1 : a ≤ 700000) : ∃ xs a', Evt (fun k => spec_l6Bent.f k ⟨c, a⟩) (xs, a') ∧ a ≤ a' ∧ a' ≤ a + 50 ∧ xs.length ≤ 10 := by
  obtain ⟨xs, a1, e1, q1, q2, hl⟩ := l6Right_ev c a hc h0 (by omega)
  obtain ⟨v, e2, v0, v1⟩ := next_ev c a1 14 hc (by omega) (by omega)
  obtain ⟨x0, f0, _⟩ := pick_ev c (a1 + 1) [0, 1000, 900] hc (by omega) (by simp)
  obtain ⟨x1, f1, _⟩ := pick_ev c (a1 + 1 + 1) [1, 0, 61] hc (by omega) (by simp)
  cases h0 : v == 0
  · cases h1 : v == 1
    · cases h2 : v == 2
      · exact ⟨_, _, Evt.bind e1 (Evt.bind e2 (Evt.f h0 (Evt.f h1 (Evt.f h2 (Evt.self _))))), by omega, by omega, by show xs.length ≤ 10; omega⟩
      · cases h3 : decide (1 < (xs.length : Int))
        · exact ⟨_, _, Evt.bind e1 (Evt.bind e2 (Evt.f h0 (Evt.f h1 (Evt.t h2 (Evt.f h3 (Evt.self _)))))), by omega, by omega, by show xs.length ≤ 10; omega⟩
        · have h4 := of_decide_eq_true h3
          have h5 : idxOk (0 : Int) xs.length = true := idx_ok (i := 0) (by omega)
          have h6 : idxOk (1 : Int) xs.length = true := idx_ok (i := 1) (by omega)
          exact ⟨_, _, Evt.bind e1 (Evt.bind e2 (Evt.f h0 (Evt.f h1 (Evt.t h2 (Evt.t h3 (Evt.chk h5 (Evt.chk h6 (Evt.self _)))))))), by omega, by omega, by show (xs.set _ _).length ≤ 10; rw [List.length_set]; omega⟩
    · exact ⟨_, _, Evt.bind e1 (Evt.bind e2 (Evt.f h0 (Evt.t h1 (Evt.chk rfl (Evt.chk rfl (Evt.self _)))))), by omega, by omega, by show (List.replicate ((9 : Int)).toNat _).length ≤ 10; rw [List.length_replicate]; decide⟩
  · exact ⟨_, _, Evt.bind e1 (Evt.bind e2 (Evt.t h0 (Evt.bind f0 (Evt.bind f1 (Evt.chk (leB_mk2 (by simp; omega)) (Evt.self _)))))), by omega, by omega, by show (xs ++ [_]).length ≤ 10; simp; omega⟩
def spec_l3Among_v (x0 : List Ref) (x1 : Ref) : Bool := (onO ((List.range' 0 (x0.length - 0)).findSome? (fun (i0 : Nat) => (bif ((((gt x0 (i0 : Int)).fTx) == x1.fTx) && (((gt x0 (i0 : Int)).fAt) == x1.fAt)) then (some true) else none))) (fun r => r) false)
theorem spec_l3Among_ev (x0 : List Ref) (x1 : Ref) (h_x0 : (Lm smRef) x0) : Evt (fun k => spec_l3Among.f k x0 x1) (spec_l3Among_v x0 x1) :=
  (Evt.loop (r' := fun r => r) (Evt.srch (L := (fun k i => spec_l3Among.l0 x0 x1 k i)) 0 x0.length (by have := h_x0; first | (have := this.1; omega) | omega) (fun (i0 : Nat) => (bif ((((gt x0 (i0 : Int)).fTx) == x1.fTx) && (((gt x0 (i0 : Int)).fAt) == x1.fAt)) then (some true) else none)) (fun i0 hs2 hi2 => by
  have hbn : x0.length ≤ 9223372036854775807 := (by have := h_x0; first | (have := this.1; omega) | omega)
  simp only [spec_l3Among.l0_s]
  exact Evt_t2 (int_lt hi2) (StE.chk (by first | exact idx_ok (by omega) | exact idx_ok (by have hq := len_eq (by assumption); omega) | exact idx_found (show (0 : Int) ≤ (i0 : Int) by simp_all) | exact cut_ok (by omega) | exact or_ok (idx_ok (by omega)) | (refine or1 (fun hz => pre_ok (by simp at hz; omega) (by omega) (by omega))) | exact pre_ok (by omega) (by omega) (by omega) | (simp_all [idxOk, cutOk, leB]; done) | (simp_all [idxOk, cutOk, leB]; omega) | (simp [idxOk, cutOk, leB] at *; omega) | (have hf0 := h_x0.1; simp only [leB, decide_eq_true_eq, List.length_append, List.length_cons, List.length_nil]; omega)) (StE.ifh (fun hc1 => (StE.ret _)) (fun hc1 => StE.next)))) (fun j hj => by
  simp only [spec_l3Among.l0_s]
  exact Evt.f (ge_lt hj) (Evt.self _))) (fun _ => rfl) (Evt.self _))
def spec_l1In_v (x0 : Int) (x1 : Int) (x2 : Int) : Bool := ((decide (x1 ≤ x0)) && (decide (x0 ≤ x2)))
theorem spec_l1In_ev (x0 : Int) (x1 : Int) (x2 : Int)  : Evt (fun k => spec_l1In.f k x0 x1 x2) (spec_l1In_v x0 x1 x2) :=
  (Evt.self _)
def spec_l1Key_v (x0 : Int) : Bool := (spec_l1In_v x0 1 999)
theorem spec_l1Key_ev (x0 : Int)  : Evt (fun k => spec_l1Key.f k x0) (spec_l1Key_v x0) :=
  (Evt.bind (spec_l1In_ev x0 1 999) (Evt.self _))
def spec_l2Height_v (x0 : Int) : Bool := (spec_l1In_v x0 0 999)
theorem spec_l2Height_ev (x0 : Int)  : Evt (fun k => spec_l2Height.f k x0) (spec_l2Height_v x0) :=
  (Evt.bind (spec_l1In_ev x0 0 999) (Evt.self _))
def spec_l2Fault_v (x0 : Rule) : Int := (bif !(spec_l1In_v (x0.fKeys.length : Int) 1 3) then 2 else (onO ((List.range' 0 (x0.fKeys.length - 0)).findSome? (fun (i0 : Nat) => (bif !(spec_l1Key_v (gt x0.fKeys (i0 : Int))) then (some 3) else none))) (fun r => r) (bif ((!(spec_l1In_v x0.fNeed 1 (x0.fKeys.length : Int))) || (!(bif (!(!(spec_l1In_v x0.fNeed 1 (x0.fKeys.length : Int)))) then (spec_l2Height_v x0.fAfter) else default))) then 3 else (onO ((List.range' 1 (x0.fKeys.length - 1)).findSome? (fun (i2 : Nat) => (bif (decide ((gt x0.fKeys (i2 : Int)) ≤ (gt x0.fKeys (wrap64 ((i2 : Int) - 1))))) then (some 1) else none))) (fun r => r) 0))))
theorem spec_l2Fault_ev (x0 : Rule) (h_x0 : smRule x0) : Evt (fun k => spec_l2Fault.f k x0) (spec_l2Fault_v x0) :=
  (Evt.bind (spec_l1In_ev (x0.fKeys.length : Int) 1 3) (Evt.ifh (fun hc5 => (Evt.self _)) (fun hc5 => (Evt.loop (r' := fun r => r) (Evt.srch (L := (fun k i => spec_l2Fault.l0 x0 k i)) 0 x0.fKeys.length (by have := h_x0.1; first | (have := this.1; omega) | omega) (fun (i0 : Nat) => (bif !(spec_l1Key_v (gt x0.fKeys (i0 : Int))) then (some 3) else none)) (fun i0 hs2 hi2 => by
  have hbn : x0.fKeys.length ≤ 9223372036854775807 := (by have := h_x0.1; first | (have := this.1; omega) | omega)
  simp only [spec_l2Fault.l0_s]
  exact Evt_t2 (int_lt hi2) (StE.chk (by first | exact idx_ok (by omega) | exact idx_ok (by have hq := len_eq (by assumption); omega) | exact idx_found (show (0 : Int) ≤ (i0 : Int) by simp_all) | exact cut_ok (by omega) | exact or_ok (idx_ok (by omega)) | (refine or1 (fun hz => pre_ok (by simp at hz; omega) (by omega) (by omega))) | exact pre_ok (by omega) (by omega) (by omega) | (simp_all [idxOk, cutOk, leB]; done) | (simp_all [idxOk, cutOk, leB]; omega) | (simp [idxOk, cutOk, leB] at *; omega) | (have hf0 := h_x0.1.1; simp only [leB, decide_eq_true_eq, List.length_append, List.length_cons, List.length_nil]; omega)) (StE.bind (spec_l1Key_ev (gt x0.fKeys (i0 : Int))) (StE.ifh (fun hc1 => (StE.ret _)) (fun hc1 => StE.next))))) (fun j hj => by
  simp only [spec_l2Fault.l0_s]
  exact Evt.f (ge_lt hj) (Evt.self _))) (fun _ => rfl) (Evt.bind (spec_l1In_ev x0.fNeed 1 (x0.fKeys.length : Int)) (Evt.bind (Evt.ifh (fun _ => (spec_l2Height_ev x0.fAfter)) (fun _ => Evt.self _)) (Evt.ifh (fun hc4 => (Evt.self _)) (fun hc4 => (Evt.loop (r' := fun r => r) (Evt.srch (L := (fun k i => spec_l2Fault.l1 x0 k i)) 1 x0.fKeys.length (by have := h_x0.1; first | (have := this.1; omega) | omega) (fun (i2 : Nat) => (bif (decide ((gt x0.fKeys (i2 : Int)) ≤ (gt x0.fKeys (wrap64 ((i2 : Int) - 1))))) then (some 1) else none)) (fun i2 hs4 hi4 => by
  have hbn : x0.fKeys.length ≤ 9223372036854775807 := (by have := h_x0.1; first | (have := this.1; omega) | omega)
  simp only [spec_l2Fault.l1_s]
  exact Evt_t2 (int_lt hi4) (StE.chk (by first | exact idx_ok (by omega) | exact idx_ok (by have hq := len_eq (by assumption); omega) | exact idx_found (show (0 : Int) ≤ (i2 : Int) by simp_all) | exact cut_ok (by omega) | exact or_ok (idx_ok (by omega)) | (refine or1 (fun hz => pre_ok (by simp at hz; omega) (by omega) (by omega))) | exact pre_ok (by omega) (by omega) (by omega) | (simp_all [idxOk, cutOk, leB]; done) | (simp_all [idxOk, cutOk, leB]; omega) | (simp [idxOk, cutOk, leB] at *; omega) | (have hf0 := h_x0.1.1; simp only [leB, decide_eq_true_eq, List.length_append, List.length_cons, List.length_nil]; omega)) (StE.chk (by first | exact idx_ok (by omega) | exact idx_ok (by have hq := len_eq (by assumption); omega) | exact idx_found (show (0 : Int) ≤ (wrap64 ((i2 : Int) - 1)) by simp_all) | exact cut_ok (by omega) | exact or_ok (idx_ok (by omega)) | (refine or1 (fun hz => pre_ok (by simp at hz; omega) (by omega) (by omega))) | exact pre_ok (by omega) (by omega) (by omega) | (simp_all [idxOk, cutOk, leB]; done) | (simp_all [idxOk, cutOk, leB]; omega) | (simp [idxOk, cutOk, leB] at *; omega) | (have hf0 := h_x0.1.1; simp only [leB, decide_eq_true_eq, List.length_append, List.length_cons, List.length_nil]; omega)) (StE.ifh (fun hc3 => (StE.ret _)) (fun hc3 => StE.next))))) (fun j hj => by
  simp only [spec_l2Fault.l1_s]
  exact Evt.f (ge_lt hj) (Evt.self _))) (fun _ => rfl) (Evt.self _))))))))))
structure RuleOK (r : Rule) : Prop where
  n1 : 1 ≤ r.fKeys.length
  n3 : r.fKeys.length ≤ 3
  key : ∀ x ∈ r.fKeys, 1 ≤ x ∧ x ≤ 999
  need : 1 ≤ r.fNeed ∧ r.fNeed ≤ 3
  after : 0 ≤ r.fAfter ∧ r.fAfter ≤ 999
theorem rule_ok (x0 : Rule) (h : (spec_l2Fault_v x0 != 0) = false) : RuleOK x0 := by
  have h0 : spec_l2Fault_v x0 = 0 := by simpa using h
  unfold spec_l2Fault_v at h0
  cases ha : spec_l1In_v (x0.fKeys.length : Int) 1 3
  · rw [ha] at h0; exact absurd (show (2 : Int) = 0 from h0) (by decide)
  · rw [ha] at h0
    have h1 : onO ((List.range' 0 (x0.fKeys.length - 0)).findSome? (fun (i0 : Nat) => (bif !(spec_l1Key_v (gt x0.fKeys (i0 : Int))) then (some (3 : Int)) else none))) (fun r => r) (bif ((!(spec_l1In_v x0.fNeed 1 (x0.fKeys.length : Int))) || (!(bif (!(!(spec_l1In_v x0.fNeed 1 (x0.fKeys.length : Int)))) then (spec_l2Height_v x0.fAfter) else default))) then 3 else (onO ((List.range' 1 (x0.fKeys.length - 1)).findSome? (fun (i2 : Nat) => (bif (decide ((gt x0.fKeys (i2 : Int)) ≤ (gt x0.fKeys (wrap64 ((i2 : Int) - 1))))) then (some 1) else none))) (fun r => r) 0)) = 0 := h0
    obtain ⟨h2, h3⟩ := onO_zero h1 (fun i => by cases spec_l1Key_v (gt x0.fKeys (i : Int)) <;> simp)
    have hk := fs_all h2
    simp only [spec_l1In_v, Bool.and_eq_true, decide_eq_true_eq] at ha
    cases hb : spec_l1In_v x0.fNeed 1 (x0.fKeys.length : Int)
    · rw [hb] at h3; exact absurd (show (3 : Int) = 0 from h3) (by decide)
    · cases hc : spec_l2Height_v x0.fAfter
      · rw [hb, hc] at h3; exact absurd (show (3 : Int) = 0 from h3) (by decide)
      · simp only [spec_l2Height_v, spec_l1In_v, Bool.and_eq_true, decide_eq_true_eq] at hb hc
        refine ⟨by omega, by omega, fun x hx => ?_, by omega, hc⟩
        obtain ⟨i, hi, rfl⟩ := List.getElem_of_mem hx
        have h4 := hk i hi
        rw [gt_eq (by simpa using hi)] at h4
        cases h5 : spec_l1Key_v x0.fKeys[i]
        · simp only [Int.toNat_natCast] at h4; rw [h5] at h4; cases h4
        · simp only [spec_l1Key_v, spec_l1In_v, Bool.and_eq_true, decide_eq_true_eq] at h5
          exact h5
structure KeysUp (xs : List Int) : Prop where
  l1 : 1 ≤ xs.length
  l3 : xs.length ≤ 3
  up : xs.Pairwise (· < ·)
  key : ∀ x ∈ xs, 1 ≤ x ∧ x ≤ 3 * (xs.length : Int)
  last : ∀ x ∈ xs, x ≤ gt xs ((xs.length - 1 : Nat) : Int)
theorem KeysUp.snoc {xs : List Int} {y : Int} (h : KeysUp xs) (h2 : xs.length ≤ 2) (h3 : gt xs ((xs.length - 1 : Nat) : Int) < y) (h4 : y ≤ gt xs ((xs.length - 1 : Nat) : Int) + 2) : KeysUp (xs ++ [y]) := by
  have hl := h.l1
  have hg := h.key _ (gt_mem (xs := xs) (i := xs.length - 1) (by omega))
  have e : (xs ++ [y]).length = xs.length + 1 := by simp
  refine ⟨by omega, by omega, List.pairwise_append.2 ⟨h.up, by simp, fun a ha b hb => ?_⟩, fun x hx => ?_, fun x hx => ?_⟩
  · simp at hb; subst hb
    have := h.last a ha; omega
  · rw [e]
    rcases List.mem_append.1 hx with hx | hx
    · have := h.key x hx; omega
    · simp at hx; subst hx; omega
  · have e2 : gt (xs ++ [y]) (((xs ++ [y]).length - 1 : Nat) : Int) = y := by
      rw [e, Nat.add_sub_cancel, gt_eq (by simp)]
      simp
    rw [e2]
    rcases List.mem_append.1 hx with hx | hx
    · have := h.last x hx; omega
    · simp at hx; omega
theorem rule_zero (r : Rule) (h : KeysUp r.fKeys) (hn : 1 ≤ r.fNeed ∧ r.fNeed ≤ (r.fKeys.length : Int)) (ha : 0 ≤ r.fAfter ∧ r.fAfter ≤ 999) : spec_l2Fault_v r = 0 := by
  have l1 := h.l1; have l3 := h.l3
  have a1 : spec_l1In_v (r.fKeys.length : Int) 1 3 = true := by simp only [spec_l1In_v, Bool.and_eq_true, decide_eq_true_eq]; omega
  have a2 : spec_l1In_v r.fNeed 1 (r.fKeys.length : Int) = true := by simp only [spec_l1In_v, Bool.and_eq_true, decide_eq_true_eq]; omega
  have a3 : spec_l2Height_v r.fAfter = true := by simp only [spec_l2Height_v, spec_l1In_v, Bool.and_eq_true, decide_eq_true_eq]; omega
  have f1 : (List.range' 0 (r.fKeys.length - 0)).findSome? (fun (i0 : Nat) => (bif !(spec_l1Key_v (gt r.fKeys (i0 : Int))) then (some (3 : Int)) else none)) = none := by
    rw [List.findSome?_eq_none_iff]
    intro i hi
    have hlt : i < r.fKeys.length := by rw [List.mem_range'_1] at hi; omega
    have := h.key _ (gt_mem hlt)
    have hk : spec_l1Key_v (gt r.fKeys (i : Int)) = true := by simp only [spec_l1Key_v, spec_l1In_v, Bool.and_eq_true, decide_eq_true_eq]; omega
    rw [hk]; rfl
  have f2 : (List.range' 1 (r.fKeys.length - 1)).findSome? (fun (i2 : Nat) => (bif (decide ((gt r.fKeys (i2 : Int)) ≤ (gt r.fKeys (wrap64 ((i2 : Int) - 1))))) then (some (1 : Int)) else none)) = none := by
    rw [List.findSome?_eq_none_iff]
    intro i hi
    rw [List.mem_range'_1] at hi
    have hlt : i < r.fKeys.length := by omega
    have e : wrap64 ((i : Int) - 1) = ((i - 1 : Nat) : Int) := by rw [wrap64_in _ (by omega)]; omega
    have := List.pairwise_iff_getElem.1 h.up (i - 1) i (by omega) hlt (by omega)
    rw [e, gt_eq (by simpa using hlt), gt_eq (by simp; omega)]
    simp only [Int.toNat_natCast]
    rw [decide_eq_false (by omega)]; rfl
  unfold spec_l2Fault_v
  rw [a1, f1, a2, a3, f2]; rfl
theorem l2Draw_loop (c : List Int) (z : l1Src) (hz : z.fCode = c) (hc : codeOK c) : ∀ (d : Nat) (a : Int) (xs : List Int), 0 ≤ a → a + d ≤ 900000 → xs.length + d ≤ 3 → KeysUp xs → ∃ a' xs', Evt (fun k => spec_l2Draw.l0 z k a xs (d : Int)) (a', xs') ∧ a ≤ a' ∧ a' ≤ a + d ∧ KeysUp xs'
  | 0, a, xs, h0, h1, h2, h3 => by
    refine ⟨a, xs, Evt.s ?_, by omega, by omega, h3⟩
    simp only [spec_l2Draw.l0_s]
    exact Evt.f rfl (Evt.self _)
  | d + 1, a, xs, h0, h1, h2, h3 => by
    obtain ⟨v, ev, v0, v1⟩ := next_ev c a 2 hc (by omega) (by omega)
    have l1 := h3.l1
    have hg := h3.key _ (gt_mem (xs := xs) (i := xs.length - 1) (by omega))
    have hd : decide ((0 : Int) < ((d + 1 : Nat) : Int)) = true := decide_eq_true (by omega)
    have ew : wrap64 (((d + 1 : Nat) : Int) - 1) = (d : Int) := by rw [wrap64_in _ (by omega)]; omega
    have el : wrap64 ((xs.length : Int) - 1) = ((xs.length - 1 : Nat) : Int) := by rw [wrap64_in _ (by omega)]; omega
    have e1 : wrap64 (gt xs ((xs.length - 1 : Nat) : Int) + 1) = gt xs ((xs.length - 1 : Nat) : Int) + 1 := w_in (by omega)
    have e2 : wrap64 (gt xs ((xs.length - 1 : Nat) : Int) + 1 + v) = gt xs ((xs.length - 1 : Nat) : Int) + 1 + v := w_in (by omega)
    obtain ⟨a', xs', e, q1, q2, q3⟩ := l2Draw_loop c z hz hc d (a + 1) (xs ++ [gt xs ((xs.length - 1 : Nat) : Int) + 1 + v]) (by omega) (by omega) (by simp; omega) (h3.snoc (by omega) (by omega) (by omega))
    refine ⟨a', xs', Evt.s ?_, by omega, by omega, q3⟩
    simp only [spec_l2Draw.l0_s, hz, el]
    refine Evt.t hd (Evt.chk (idx_ok (by omega)) (Evt.bind ev ?_))
    simp only [e1, e2, ew]
    exact Evt.chk (leB_mk2 (by simp; omega)) e
theorem l2Draw_ev (c : List Int) (a : Int) (hc : codeOK c) (h0 : 0 ≤ a) (h1 : a ≤ 800000) : ∃ r a', Evt (fun k => spec_l2Draw.f k ⟨c, a⟩) (r, a') ∧ a ≤ a' ∧ a' ≤ a + 10 ∧ spec_l2Fault_v r = 0 := by
  obtain ⟨v1, e1, p1, q1⟩ := next_ev c a 3 hc (by omega) (by omega)
  obtain ⟨v2, e2, p2, q2⟩ := next_ev c (a + 1) 3 hc (by omega) (by omega)
  obtain ⟨n, rfl⟩ : ∃ n : Nat, v2 = n := ⟨v2.toNat, by omega⟩
  have w1 : wrap64 (1 + v1) = 1 + v1 := w_in (by omega)
  have hk0 : KeysUp [1 + v1] := ⟨by simp, by simp, by simp, fun x hx => by simp at hx; subst hx; simp; omega, fun x hx => by simp at hx; subst hx; exact Int.le_of_eq rfl⟩
  obtain ⟨a', xs, e3, r1, r2, r3⟩ := l2Draw_loop c ⟨c, a⟩ rfl hc n (a + 1 + 1) [1 + v1] (by omega) (by omega) (by simp; omega) hk0
  have l1 := r3.l1; have l3 := r3.l3
  obtain ⟨v4, e4, p4, q4⟩ := next_ev c a' (xs.length : Int) hc (by omega) (by omega)
  obtain ⟨v5, e5, p5, q5⟩ := next_ev c (a' + 1) 9 hc (by omega) (by omega)
  obtain ⟨v6, e6, m6⟩ := pick_ev c (a' + 1 + 1) [0, 0, 0, v5] hc (by omega) (by simp)
  have w4 : wrap64 (1 + v4) = 1 + v4 := w_in (by omega)
  have h6 : 0 ≤ v6 ∧ v6 ≤ 8 := by simp only [List.mem_cons, List.not_mem_nil, or_false] at m6; omega
  refine ⟨⟨xs, 1 + v4, v6⟩, a' + 1 + 1 + 1, ?_, by omega, by omega, rule_zero _ r3 ⟨by show 1 ≤ 1 + v4; omega, by show 1 + v4 ≤ (xs.length : Int); omega⟩ ⟨h6.1, by show v6 ≤ 999; omega⟩⟩
  refine Evt.bind e1 (Evt.bindc (Evt.bind e2 (show Evt (fun k => spec_l2Draw.l0 ⟨c, a⟩ k (a + 1 + 1) [wrap64 (1 + v1)] (n : Int)) (a', xs) by rw [w1]; exact e3)) (Evt.bind e4 (Evt.bind e5 (Evt.bind e6 (Evt.ret ?_)))))
  show ((⟨xs, wrap64 (1 + v4), v6⟩ : Rule), a' + 1 + 1 + 1) = _
  rw [w4]
def spec_l3Ref_v (x0 : Ref) : Bool := ((spec_l1In_v x0.fTx 1 60) && (bif (spec_l1In_v x0.fTx 1 60) then (spec_l1In_v x0.fAt 0 3) else default))
theorem spec_l3Ref_ev (x0 : Ref)  : Evt (fun k => spec_l3Ref.f k x0) (spec_l3Ref_v x0) :=
  (Evt.bind (spec_l1In_ev x0.fTx 1 60) (Evt.bind (Evt.ifh (fun _ => (spec_l1In_ev x0.fAt 0 3)) (fun _ => Evt.self _)) (Evt.self _)))
def spec_l3Outs_v (x0 : Tx) : Int := (onO ((List.range' 0 (x0.fOuts.length - 0)).findSome? (fun (i0 : Nat) => (bif !(spec_l1In_v ((gt x0.fOuts (i0 : Int)).fValue) 1 1000000) then (some 3) else (bif ((spec_l2Fault_v ((gt x0.fOuts (i0 : Int)).fRule)) != 0) then (some (spec_l2Fault_v ((gt x0.fOuts (i0 : Int)).fRule))) else none)))) (fun r => r) (bif ((x0.fKind == 1) && (decide (((gt x0.fOuts (0 : Int)).fValue) < 100))) then 8 else 0))
theorem spec_l3Outs_ev (x0 : Tx) (h_x0 : smTx x0) (hpre : 0 < x0.fOuts.length) : Evt (fun k => spec_l3Outs.f k x0) (spec_l3Outs_v x0) :=
  (Evt.loop (r' := fun r => r) (Evt.srch (L := (fun k i => spec_l3Outs.l0 x0 k i)) 0 x0.fOuts.length (by have := h_x0.2.2.2; first | (have := this.1; omega) | omega) (fun (i0 : Nat) => (bif !(spec_l1In_v ((gt x0.fOuts (i0 : Int)).fValue) 1 1000000) then (some 3) else (bif ((spec_l2Fault_v ((gt x0.fOuts (i0 : Int)).fRule)) != 0) then (some (spec_l2Fault_v ((gt x0.fOuts (i0 : Int)).fRule))) else none))) (fun i0 hs3 hi3 => by
  have hbn : x0.fOuts.length ≤ 9223372036854775807 := (by have := h_x0.2.2.2; first | (have := this.1; omega) | omega)
  simp only [spec_l3Outs.l0_s]
  exact Evt_t2 (int_lt hi3) (StE.chk (by first | exact idx_ok (by omega) | exact idx_ok (by have hq := len_eq (by assumption); omega) | exact idx_found (show (0 : Int) ≤ (i0 : Int) by simp_all) | exact cut_ok (by omega) | exact or_ok (idx_ok (by omega)) | (refine or1 (fun hz => pre_ok (by simp at hz; omega) (by omega) (by omega))) | exact pre_ok (by omega) (by omega) (by omega) | (simp_all [idxOk, cutOk, leB]; done) | (simp_all [idxOk, cutOk, leB]; omega) | (simp [idxOk, cutOk, leB] at *; omega) | (simp_all [idxOk]; omega) | (simp [idxOk]; omega) | (have hf0 := h_x0.2.2.1.1; have hf1 := h_x0.2.2.2.1; simp only [leB, decide_eq_true_eq, List.length_append, List.length_cons, List.length_nil]; omega)) (StE.bind (spec_l1In_ev ((gt x0.fOuts (i0 : Int)).fValue) 1 1000000) (StE.ifh (fun hc2 => (StE.ret _)) (fun hc2 => (StE.chk (by first | exact idx_ok (by omega) | exact idx_ok (by have hq := len_eq (by assumption); omega) | exact idx_found (show (0 : Int) ≤ (i0 : Int) by simp_all) | exact cut_ok (by omega) | exact or_ok (idx_ok (by omega)) | (refine or1 (fun hz => pre_ok (by simp at hz; omega) (by omega) (by omega))) | exact pre_ok (by omega) (by omega) (by omega) | (simp_all [idxOk, cutOk, leB]; done) | (simp_all [idxOk, cutOk, leB]; omega) | (simp [idxOk, cutOk, leB] at *; omega) | (simp_all [idxOk]; omega) | (simp [idxOk]; omega) | (have hf0 := h_x0.2.2.1.1; have hf1 := h_x0.2.2.2.1; simp only [leB, decide_eq_true_eq, List.length_append, List.length_cons, List.length_nil]; omega)) (StE.bind (spec_l2Fault_ev ((gt x0.fOuts (i0 : Int)).fRule) (((h_x0.2.2.2).2 _ (gt_mem (by first | omega | (have hq := len_eq (by assumption); omega) | (simp_all [idxOk]; omega) | (simp [idxOk]; omega) | (have hf0 := h_x0.2.2.1.1; have hf1 := h_x0.2.2.2.1; simp only [leB, decide_eq_true_eq, List.length_append, List.length_cons, List.length_nil]; omega)))).2)) (StE.ifh (fun hc1 => (StE.ret _)) (fun hc1 => StE.next))))))))) (fun j hj => by
  simp only [spec_l3Outs.l0_s]
  exact Evt.f (ge_lt hj) (Evt.self _))) (fun _ => rfl) (Evt.chk (by first | exact idx_ok (by omega) | exact idx_ok (by have hq := len_eq (by assumption); omega) | exact idx_found (by simp_all) | exact cut_ok (by omega) | exact or_ok (idx_ok (by omega)) | (refine or1 (fun hz => pre_ok (by simp at hz; omega) (by omega) (by omega))) | exact pre_ok (by omega) (by omega) (by omega) | (simp_all [idxOk, cutOk, leB]; done) | (simp_all [idxOk, cutOk, leB]; omega) | (simp [idxOk, cutOk, leB] at *; omega) | (simp_all [idxOk]; omega) | (simp [idxOk]; omega) | (have hf0 := h_x0.2.2.1.1; have hf1 := h_x0.2.2.2.1; simp only [leB, decide_eq_true_eq, List.length_append, List.length_cons, List.length_nil]; omega)) (Evt.ifh (fun hc3 => (Evt.self _)) (fun hc3 => (Evt.self _)))))
def spec_l3Fault_v (x0 : Tx) : Int := (bif ((!(spec_l1In_v x0.fKind 0 2)) || ((x0.fKind == 0) != (x0.fMember == 0))) then 1 else (bif ((x0.fKind != 0) && (!(bif (x0.fKind != 0) then (spec_l1Key_v x0.fMember) else default))) then 3 else (bif ((!(spec_l1In_v (x0.fIns.length : Int) 1 4)) || (!(bif (!(!(spec_l1In_v (x0.fIns.length : Int) 1 4))) then (spec_l1In_v (x0.fOuts.length : Int) 1 4) else default))) then 2 else (onO ((List.range' 0 (x0.fIns.length - 0)).findSome? (fun (i0 : Nat) => (bif !(spec_l3Ref_v (gt x0.fIns (i0 : Int))) then (some 3) else (bif (spec_l3Among_v (x0.fIns.take ((i0 : Int)).toNat) (gt x0.fIns (i0 : Int))) then (some 7) else none)))) (fun r => r) (spec_l3Outs_v x0)))))
theorem spec_l3Fault_ev (x0 : Tx) (h_x0 : smTx x0) : Evt (fun k => spec_l3Fault.f k x0) (spec_l3Fault_v x0) :=
  (Evt.bind (spec_l1In_ev x0.fKind 0 2) (Evt.ifh (fun hc5 => (Evt.self _)) (fun hc5 => (Evt.bind (Evt.ifh (fun _ => (spec_l1Key_ev x0.fMember)) (fun _ => Evt.self _)) (Evt.ifh (fun hc4 => (Evt.self _)) (fun hc4 => (Evt.bind (spec_l1In_ev (x0.fIns.length : Int) 1 4) (Evt.bind (Evt.ifh (fun _ => (spec_l1In_ev (x0.fOuts.length : Int) 1 4)) (fun _ => Evt.self _)) (Evt.ifh (fun hc3 => (Evt.self _)) (fun hc3 => (Evt.loop (r' := fun r => r) (Evt.srch (L := (fun k i => spec_l3Fault.l0 x0 k i)) 0 x0.fIns.length (by have := h_x0.2.2.1; first | (have := this.1; omega) | omega) (fun (i0 : Nat) => (bif !(spec_l3Ref_v (gt x0.fIns (i0 : Int))) then (some 3) else (bif (spec_l3Among_v (x0.fIns.take ((i0 : Int)).toNat) (gt x0.fIns (i0 : Int))) then (some 7) else none))) (fun i0 hs3 hi3 => by
  have hbn : x0.fIns.length ≤ 9223372036854775807 := (by have := h_x0.2.2.1; first | (have := this.1; omega) | omega)
  simp only [spec_l3Fault.l0_s]
  exact Evt_t2 (int_lt hi3) (StE.chk (by first | exact idx_ok (by omega) | exact idx_ok (by have hq := len_eq (by assumption); omega) | exact idx_found (show (0 : Int) ≤ (i0 : Int) by simp_all) | exact cut_ok (by omega) | exact or_ok (idx_ok (by omega)) | (refine or1 (fun hz => pre_ok (by simp at hz; omega) (by omega) (by omega))) | exact pre_ok (by omega) (by omega) (by omega) | (simp_all [idxOk, cutOk, leB]; done) | (simp_all [idxOk, cutOk, leB]; omega) | (simp [idxOk, cutOk, leB] at *; omega) | (simp_all [spec_l1In_v]; omega) | (have hf0 := h_x0.2.2.1.1; have hf1 := h_x0.2.2.2.1; simp only [leB, decide_eq_true_eq, List.length_append, List.length_cons, List.length_nil]; omega)) (StE.bind (spec_l3Ref_ev (gt x0.fIns (i0 : Int))) (StE.ifh (fun hc2 => (StE.ret _)) (fun hc2 => (StE.chk (by first | exact idx_ok (by omega) | exact idx_ok (by have hq := len_eq (by assumption); omega) | exact idx_found (by simp_all) | exact cut_ok (by omega) | exact or_ok (idx_ok (by omega)) | (refine or1 (fun hz => pre_ok (by simp at hz; omega) (by omega) (by omega))) | exact pre_ok (by omega) (by omega) (by omega) | (simp_all [idxOk, cutOk, leB]; done) | (simp_all [idxOk, cutOk, leB]; omega) | (simp [idxOk, cutOk, leB] at *; omega) | (simp_all [spec_l1In_v]; omega) | (have hf0 := h_x0.2.2.1.1; have hf1 := h_x0.2.2.2.1; simp only [leB, decide_eq_true_eq, List.length_append, List.length_cons, List.length_nil]; omega)) (StE.chk (by first | exact idx_ok (by omega) | exact idx_ok (by have hq := len_eq (by assumption); omega) | exact idx_found (show (0 : Int) ≤ (i0 : Int) by simp_all) | exact cut_ok (by omega) | exact or_ok (idx_ok (by omega)) | (refine or1 (fun hz => pre_ok (by simp at hz; omega) (by omega) (by omega))) | exact pre_ok (by omega) (by omega) (by omega) | (simp_all [idxOk, cutOk, leB]; done) | (simp_all [idxOk, cutOk, leB]; omega) | (simp [idxOk, cutOk, leB] at *; omega) | (simp_all [spec_l1In_v]; omega) | (have hf0 := h_x0.2.2.1.1; have hf1 := h_x0.2.2.2.1; simp only [leB, decide_eq_true_eq, List.length_append, List.length_cons, List.length_nil]; omega)) (StE.bind (spec_l3Among_ev (x0.fIns.take ((i0 : Int)).toNat) (gt x0.fIns (i0 : Int)) ((Lm_take h_x0.2.2.1))) (StE.ifh (fun hc1 => (StE.ret _)) (fun hc1 => StE.next)))))))))) (fun j hj => by
  simp only [spec_l3Fault.l0_s]
  exact Evt.f (ge_lt hj) (Evt.self _))) (fun _ => rfl) (Evt.bind (spec_l3Outs_ev x0 (h_x0) (by first | assumption | (simp_all; omega) | (simp_all [spec_l1In_v]; omega) | (have hf0 := h_x0.2.2.1.1; have hf1 := h_x0.2.2.2.1; simp only [leB, decide_eq_true_eq, List.length_append, List.length_cons, List.length_nil]; omega))) (Evt.self _)))))))))))))
structure TxOK (t : Tx) : Prop where
  kind : 0 ≤ t.fKind ∧ t.fKind ≤ 2
  mem0 : t.fKind = 0 → t.fMember = 0
  mem : t.fKind ≠ 0 → 1 ≤ t.fMember ∧ t.fMember ≤ 999
  ins1 : 1 ≤ t.fIns.length
  ins4 : t.fIns.length ≤ 4
  outs1 : 1 ≤ t.fOuts.length
  outs4 : t.fOuts.length ≤ 4
  ins : ∀ r ∈ t.fIns, (1 ≤ r.fTx ∧ r.fTx ≤ 60) ∧ 0 ≤ r.fAt ∧ r.fAt ≤ 3
  outs : ∀ o ∈ t.fOuts, (1 ≤ o.fValue ∧ o.fValue ≤ 1000000) ∧ spec_l2Fault_v o.fRule = 0
theorem tx_ok (x0 : Tx) (h : (spec_l3Fault_v x0 != 0) = false) : TxOK x0 := by
  have h0 : spec_l3Fault_v x0 = 0 := by simpa using h
  unfold spec_l3Fault_v at h0
  cases hc : ((!(spec_l1In_v x0.fKind 0 2)) || ((x0.fKind == 0) != (x0.fMember == 0)))
  · rw [hc] at h0
    cases hd : ((x0.fKind != 0) && (!(bif (x0.fKind != 0) then (spec_l1Key_v x0.fMember) else default)))
    · rw [hd] at h0
      cases he : ((!(spec_l1In_v (x0.fIns.length : Int) 1 4)) || (!(bif (!(!(spec_l1In_v (x0.fIns.length : Int) 1 4))) then (spec_l1In_v (x0.fOuts.length : Int) 1 4) else default)))
      · rw [he] at h0
        have h1 : onO ((List.range' 0 (x0.fIns.length - 0)).findSome? (fun (i0 : Nat) => (bif !(spec_l3Ref_v (gt x0.fIns (i0 : Int))) then (some (3 : Int)) else (bif (spec_l3Among_v (x0.fIns.take ((i0 : Int)).toNat) (gt x0.fIns (i0 : Int))) then (some 7) else none)))) (fun r => r) (spec_l3Outs_v x0) = 0 := h0
        obtain ⟨h2, h3⟩ := onO_zero h1 (fun i => by
          cases spec_l3Ref_v (gt x0.fIns (i : Int))
          · simp
          · cases spec_l3Among_v (x0.fIns.take ((i : Int)).toNat) (gt x0.fIns (i : Int)) <;> simp)
        have hk := fs_all h2
        unfold spec_l3Outs_v at h3
        obtain ⟨h4, _⟩ := onO_zero h3 (fun i => by
          cases spec_l1In_v ((gt x0.fOuts (i : Int)).fValue) 1 1000000
          · simp
          · cases hq : spec_l2Fault_v ((gt x0.fOuts (i : Int)).fRule) != 0
            · simp
            · simp only [Bool.not_true, cond_false, cond_true]
              intro e
              rw [Option.some.inj e] at hq; cases hq)
        have hl := fs_all h4
        simp only [spec_l1In_v, spec_l1Key_v, Bool.or_eq_false_iff, Bool.not_eq_false', Bool.and_eq_true, decide_eq_true_eq] at hc he
        obtain ⟨hc1, hc2⟩ := hc
        obtain ⟨he1, he2⟩ := he
        have he3 : 1 ≤ (x0.fOuts.length : Int) ∧ (x0.fOuts.length : Int) ≤ 4 := by
          have e : (decide (1 ≤ (x0.fIns.length : Int)) && decide ((x0.fIns.length : Int) ≤ 4)) = true := by rw [Bool.and_eq_true, decide_eq_true_eq, decide_eq_true_eq]; exact he1
          rw [e] at he2
          have he2' : (decide (1 ≤ (x0.fOuts.length : Int)) && decide ((x0.fOuts.length : Int) ≤ 4)) = true := he2
          rwa [Bool.and_eq_true, decide_eq_true_eq, decide_eq_true_eq] at he2'
        have hc3 : (x0.fKind == 0) = (x0.fMember == 0) := by
          cases e1 : (x0.fKind == 0) <;> cases e2 : (x0.fMember == 0) <;> rw [e1, e2] at hc2 <;> first | rfl | cases hc2
        refine ⟨hc1, fun hz => ?_, fun hz => ?_, by omega, by omega, by omega, by omega, fun r hr => ?_, fun o ho => ?_⟩
        · have : (x0.fMember == 0) = true := by rw [← hc3, hz]; rfl
          simpa using this
        · have e1 : (x0.fKind != 0) = true := by simpa using hz
          rw [e1] at hd
          have hd' : spec_l1Key_v x0.fMember = true := by
            cases hq : spec_l1Key_v x0.fMember
            · rw [hq] at hd; cases hd
            · rfl
          simpa only [spec_l1Key_v, spec_l1In_v, Bool.and_eq_true, decide_eq_true_eq] using hd'
        · obtain ⟨i, hi, rfl⟩ := List.getElem_of_mem hr
          have h5 := hk i hi
          rw [gt_eq (by simpa using hi)] at h5
          cases h6 : spec_l3Ref_v x0.fIns[i]
          · simp only [Int.toNat_natCast] at h5; rw [h6] at h5; cases h5
          · unfold spec_l3Ref_v at h6
            rw [Bool.and_eq_true] at h6
            rw [h6.1] at h6
            have h7 : spec_l1In_v x0.fIns[i].fAt 0 3 = true := h6.2
            have h8 := h6.1
            simp only [spec_l1In_v, Bool.and_eq_true, decide_eq_true_eq] at h7
            refine ⟨?_, h7⟩
            have h9 : spec_l1In_v x0.fIns[i].fTx 1 60 = true := by
              cases hq : spec_l1In_v x0.fIns[i].fTx 1 60
              · have h5' := hk i hi
                rw [gt_eq (by simpa using hi)] at h5'
                simp only [Int.toNat_natCast, spec_l3Ref_v] at h5'
                rw [hq] at h5'; cases h5'
              · rfl
            simpa only [spec_l1In_v, Bool.and_eq_true, decide_eq_true_eq] using h9
        · obtain ⟨i, hi, rfl⟩ := List.getElem_of_mem ho
          have h5 := hl i hi
          rw [gt_eq (by simpa using hi)] at h5
          simp only [Int.toNat_natCast] at h5
          cases h6 : spec_l1In_v x0.fOuts[i].fValue 1 1000000
          · rw [h6] at h5; cases h5
          · rw [h6] at h5
            simp only [spec_l1In_v, Bool.and_eq_true, decide_eq_true_eq] at h6
            refine ⟨h6, ?_⟩
            cases h7 : spec_l2Fault_v x0.fOuts[i].fRule != 0
            · simpa using h7
            · rw [h7] at h5; cases h5
      · rw [he] at h0; exact absurd (show (2 : Int) = 0 from h0) (by decide)
    · rw [hd] at h0; exact absurd (show (3 : Int) = 0 from h0) (by decide)
  · rw [hc] at h0; exact absurd (show (1 : Int) = 0 from h0) (by decide)
theorem sm_rule {r : Rule} (h : spec_l2Fault_v r = 0) : smRule r := ⟨⟨by have := (rule_ok r (by rw [h]; rfl)).n3; omega, fun _ _ => trivial⟩, trivial, trivial⟩
theorem sm_tx (K M : Int) (is : List Ref) (os : List Out) (hi : is.length ≤ 1048576) (ho : os.length ≤ 1048576) (h : ∀ o ∈ os, spec_l2Fault_v o.fRule = 0) : smTx ⟨K, M, is, os⟩ :=
  ⟨trivial, trivial, ⟨hi, fun _ _ => ⟨trivial, trivial⟩⟩, ⟨ho, fun o ho => ⟨trivial, sm_rule (h o ho)⟩⟩⟩
def okR (r : Ref) : Prop := (1 ≤ r.fTx ∧ r.fTx ≤ 60) ∧ 0 ≤ r.fAt ∧ r.fAt ≤ 3
def okO (o : Out) : Prop := (1 ≤ o.fValue ∧ o.fValue ≤ 1000000) ∧ spec_l2Fault_v o.fRule = 0
theorem l3Draw_l0 (c : List Int) (z : l1Src) (hz : z.fCode = c) (hc : codeOK c) : ∀ (d : Nat) (a : Int) (xs : List Ref), 0 ≤ a → a + 2 * d ≤ 900000 → xs.length + d ≤ 2 → (∀ r ∈ xs, okR r) → ∃ a' xs', Evt (fun k => spec_l3Draw.l0 z k a xs (d : Int)) (a', xs') ∧ a ≤ a' ∧ a' ≤ a + 2 * d ∧ xs'.length ≤ 2 ∧ (∀ r ∈ xs', okR r) ∧ (1 ≤ xs.length + d → 1 ≤ xs'.length)
  | 0, a, xs, h0, h1, h2, h3 => by
    refine ⟨a, xs, Evt.s ?_, by omega, by omega, by omega, h3, fun h => by omega⟩
    simp only [spec_l3Draw.l0_s]
    exact Evt.f rfl (Evt.self _)
  | d + 1, a, xs, h0, h1, h2, h3 => by
    obtain ⟨v, ev, v0, v1⟩ := next_ev c a 6 hc (by omega) (by omega)
    obtain ⟨u, eu, u0, u1⟩ := next_ev c (a + 1) 2 hc (by omega) (by omega)
    have hd : decide ((0 : Int) < ((d + 1 : Nat) : Int)) = true := decide_eq_true (by omega)
    have ew : wrap64 (((d + 1 : Nat) : Int) - 1) = (d : Int) := by rw [wrap64_in _ (by omega)]; omega
    have e1 : wrap64 (1 + v) = 1 + v := w_in (by omega)
    have ea := spec_l3Among_ev xs ⟨1 + v, u⟩ ⟨by omega, fun _ _ => ⟨trivial, trivial⟩⟩
    cases hm : spec_l3Among_v xs ⟨1 + v, u⟩
    · obtain ⟨a', xs', e, q1, q2, q3, q4, q5⟩ := l3Draw_l0 c z hz hc d (a + 1 + 1) (xs ++ [⟨1 + v, u⟩]) (by omega) (by omega) (by simp; omega) (fun x hx => by
        rcases List.mem_append.1 hx with hx | hx
        · exact h3 x hx
        · simp at hx; subst hx; exact ⟨⟨by show 1 ≤ 1 + v; omega, by show 1 + v ≤ 60; omega⟩, u0, by show u ≤ 3; omega⟩)
      refine ⟨a', xs', Evt.s ?_, by omega, by omega, q3, q4, fun _ => q5 (by rw [List.length_append]; simp only [List.length_cons, List.length_nil]; omega)⟩
      simp only [spec_l3Draw.l0_s, hz]
      refine Evt.t hd (Evt.bind ev (Evt.bind eu ?_))
      simp only [e1, ew]
      exact Evt.bind ea (Evt.t (by rw [hm]; rfl) (Evt.chk (leB_mk2 (by simp; omega)) e))
    · have hne : 1 ≤ xs.length := by
        cases xs with
        | nil => exact absurd ((rfl : spec_l3Among_v [] ⟨1 + v, u⟩ = false).symm.trans hm) Bool.false_ne_true
        | cons x xs => simp
      obtain ⟨a', xs', e, q1, q2, q3, q4, q5⟩ := l3Draw_l0 c z hz hc d (a + 1 + 1) xs (by omega) (by omega) (by omega) h3
      refine ⟨a', xs', Evt.s ?_, by omega, by omega, q3, q4, fun _ => q5 (by omega)⟩
      simp only [spec_l3Draw.l0_s, hz]
      refine Evt.t hd (Evt.bind ev (Evt.bind eu ?_))
      simp only [e1, ew]
      exact Evt.bind ea (Evt.f (by rw [hm]; rfl) e)
theorem l3Draw_l1 (c : List Int) (z : l1Src) (hz : z.fCode = c) (hc : codeOK c) : ∀ (d : Nat) (a : Int) (xs : List Out), 0 ≤ a → a + 20 * d ≤ 700000 → xs.length + d ≤ 2 → (∀ o ∈ xs, okO o) → ∃ a' xs', Evt (fun k => spec_l3Draw.l1 z k a xs (d : Int)) (a', xs') ∧ a ≤ a' ∧ a' ≤ a + 20 * d ∧ xs'.length = xs.length + d ∧ (∀ o ∈ xs', okO o)
  | 0, a, xs, h0, h1, h2, h3 => by
    refine ⟨a, xs, Evt.s ?_, by omega, by omega, by omega, h3⟩
    simp only [spec_l3Draw.l1_s]
    exact Evt.f rfl (Evt.self _)
  | d + 1, a, xs, h0, h1, h2, h3 => by
    obtain ⟨v, ev, v0, v1⟩ := next_ev c a 99 hc (by omega) (by omega)
    obtain ⟨r, b, er, r0, r1, hr⟩ := l2Draw_ev c (a + 1) hc (by omega) (by omega)
    have hd : decide ((0 : Int) < ((d + 1 : Nat) : Int)) = true := decide_eq_true (by omega)
    have ew : wrap64 (((d + 1 : Nat) : Int) - 1) = (d : Int) := by rw [wrap64_in _ (by omega)]; omega
    have e1 : wrap64 (100 + v) = 100 + v := w_in (by omega)
    obtain ⟨a', xs', e, q1, q2, q3, q4⟩ := l3Draw_l1 c z hz hc d b (xs ++ [⟨100 + v, ⟨r.fKeys, r.fNeed, r.fAfter⟩⟩]) (by omega) (by omega) (by simp; omega) (fun x hx => by
      rcases List.mem_append.1 hx with hx | hx
      · exact h3 x hx
      · simp at hx; subst hx; exact ⟨⟨by show 1 ≤ 100 + v; omega, by show 100 + v ≤ 1000000; omega⟩, hr⟩)
    refine ⟨a', xs', Evt.s ?_, by omega, by omega, by rw [q3]; simp; omega, q4⟩
    simp only [spec_l3Draw.l1_s, hz]
    refine Evt.t hd (Evt.bind ev (Evt.bind er ?_))
    simp only [e1, ew]
    exact Evt.chk (leB_mk2 (by simp; omega)) e
theorem l3Draw_ev (c : List Int) (a : Int) (hc : codeOK c) (h0 : 0 ≤ a) (h1 : a ≤ 600000) : ∃ t a', Evt (fun k => spec_l3Draw.f k ⟨c, a⟩) (t, a') ∧ a ≤ a' ∧ a' ≤ a + 100 ∧ TxOK t := by
  obtain ⟨v1, e1, m1⟩ := pick_ev c a [0, 0, 0, 1, 2] hc (by omega) (by simp)
  have hv1 : 0 ≤ v1 ∧ v1 ≤ 2 := by simp only [List.mem_cons, List.not_mem_nil, or_false] at m1; omega
  obtain ⟨v2, e2, p2, q2⟩ := next_ev c (a + 1) 4 hc (by omega) (by omega)
  have w2 : wrap64 (1 + v2) = 1 + v2 := w_in (by omega)
  obtain ⟨b, m, eb, hb1, hb2, hm0, hm1⟩ : ∃ b m : Int, Evt (fun k => (bif (v1 != 0) then ((spec_l1Next.f k (⟨c, a + 1⟩ : l1Src) 4).bind fun t926 => some (t926.2, wrap64 (1 + t926.1))) else some (a + 1, 0))) (b, m) ∧ a + 1 ≤ b ∧ b ≤ a + 2 ∧ (v1 = 0 → m = 0) ∧ (v1 ≠ 0 → 1 ≤ m ∧ m ≤ 999) := by
    cases hv : v1 != 0
    · exact ⟨a + 1, 0, Evt.f rfl (Evt.self _), by omega, by omega, fun _ => rfl, fun h => absurd (show v1 = 0 by simpa using hv) h⟩
    · refine ⟨a + 1 + 1, 1 + v2, Evt.t rfl (Evt.bind e2 (Evt.ret ?_)), by omega, by omega, fun h => ?_, fun _ => by omega⟩
      · show (a + 1 + 1, wrap64 (1 + v2)) = _
        rw [w2]
      · rw [h] at hv; cases hv
  obtain ⟨v3, e3, p3, q3⟩ := next_ev c b 2 hc (by omega) (by omega)
  have w3 : wrap64 (1 + v3) = 1 + v3 := w_in (by omega)
  obtain ⟨n3, hn3⟩ : ∃ n : Nat, 1 + v3 = n := ⟨(1 + v3).toNat, by omega⟩
  obtain ⟨a3, rs, e4, r1, r2, r3, r4, r5⟩ := l3Draw_l0 c ⟨c, a⟩ rfl hc n3 (b + 1) [] (by omega) (by omega) (by simp; omega) (by simp)
  obtain ⟨v5, e5, p5, q5⟩ := next_ev c a3 2 hc (by omega) (by omega)
  have w5 : wrap64 (1 + v5) = 1 + v5 := w_in (by omega)
  obtain ⟨n5, hn5⟩ : ∃ n : Nat, 1 + v5 = n := ⟨(1 + v5).toNat, by omega⟩
  obtain ⟨a5, os, e6, s1, s2, s3, s4⟩ := l3Draw_l1 c ⟨c, a⟩ rfl hc n5 (a3 + 1) [] (by omega) (by omega) (by simp; omega) (by simp)
  simp only [List.length_nil, Nat.zero_add] at s3 r5
  refine ⟨⟨v1, m, rs, os⟩, a5, ?_, by omega, by omega, ⟨hv1, hm0, hm1, r5 (by omega), by show rs.length ≤ 4; omega, by show 1 ≤ os.length; omega, by show os.length ≤ 4; omega, r4, s4⟩⟩
  refine Evt.bind e1 (Evt.bindc eb (Evt.bindc (Evt.bind e3 (show Evt (fun k => spec_l3Draw.l0 ⟨c, a⟩ k (b + 1) [] (wrap64 (1 + v3))) (a3, rs) by rw [w3, hn3]; exact e4)) (Evt.bindc (Evt.bind e5 (show Evt (fun k => spec_l3Draw.l1 ⟨c, a⟩ k (a3 + 1) [] (wrap64 (1 + v5))) (a5, os) by rw [w5, hn5]; exact e6)) (Evt.self _))))
theorem okTx_sm {t : Tx} (h : TxOK t) : smTx t := sm_tx t.fKind t.fMember t.fIns t.fOuts (by have := h.ins4; omega) (by have := h.outs4; omega) (fun o ho => (h.outs o ho).2)
theorem chance_ev (c : List Int) (a n : Int) (hc : codeOK c) (ha : 0 ≤ a ∧ a ≤ 1000000) (hn : 1 ≤ n ∧ n ≤ 1000000) : ∃ v, Evt (fun k => spec_l1Chance.f k ⟨c, a⟩ n) (v, a + 1) := by
  obtain ⟨v, e, _, _⟩ := next_ev c a n hc ha hn
  exact ⟨v == 0, Evt.bind e (Evt.self _)⟩
theorem l2Bent_ev (c : List Int) (a : Int) (hc : codeOK c) (h0 : 0 ≤ a) (h1 : a ≤ 700000) : ∃ r a', Evt (fun k => spec_l2Bent.f k ⟨c, a⟩) (r, a') ∧ r.fKeys.length ≤ 10 ∧ a ≤ a' ∧ a' ≤ a + 20 := by
  obtain ⟨b, a1, e1, q1, q2, hb⟩ := l2Draw_ev c a hc h0 (by omega)
  have hl := (rule_ok b (by rw [hb]; rfl)).n3
  obtain ⟨v, e2, v0, v1⟩ := next_ev c a1 10 hc (by omega) (by omega)
  obtain ⟨x0, f0, _⟩ := pick_ev c (a1 + 1) [0, 1, 1000] hc (by omega) (by simp)
  obtain ⟨x1, f1, _⟩ := pick_ev c (a1 + 1) [0, 4, 2] hc (by omega) (by simp)
  obtain ⟨x2, f2, _⟩ := pick_ev c (a1 + 1) [-1, 999, 1000] hc (by omega) (by simp)
  cases h0 : v == 0
  · cases h1 : v == 1
    · cases h2 : v == 2
      · cases h3 : v == 3
        · exact ⟨_, _, Evt.bind e1 (Evt.bind e2 (Evt.f h0 (Evt.f h1 (Evt.f h2 (Evt.f h3 (Evt.self _)))))), by show b.fKeys.length ≤ 10; omega, by omega, by omega⟩
        · exact ⟨_, _, Evt.bind e1 (Evt.bind e2 (Evt.f h0 (Evt.f h1 (Evt.f h2 (Evt.t h3 (Evt.self _)))))), by show ([] : List Int).length ≤ 10; simp, by omega, by omega⟩
      · exact ⟨_, _, Evt.bind e1 (Evt.bind e2 (Evt.f h0 (Evt.f h1 (Evt.t h2 (Evt.bind f2 (Evt.self _)))))), by show b.fKeys.length ≤ 10; omega, by omega, by omega⟩
    · exact ⟨_, _, Evt.bind e1 (Evt.bind e2 (Evt.f h0 (Evt.t h1 (Evt.bind f1 (Evt.self _))))), by show b.fKeys.length ≤ 10; omega, by omega, by omega⟩
  · exact ⟨_, _, Evt.bind e1 (Evt.bind e2 (Evt.t h0 (Evt.bind f0 (Evt.chk (leB_mk2 (by simp; omega)) (Evt.self _))))), by show (b.fKeys ++ [x0]).length ≤ 10; simp; omega, by omega, by omega⟩
theorem l3Bent_ev (c : List Int) (a : Int) (hc : codeOK c) (h0 : 0 ≤ a) (h1 : a ≤ 500000) : ∃ t a', Evt (fun k => spec_l3Bent.f k ⟨c, a⟩) (t, a') ∧ smTx t ∧ a ≤ a' ∧ a' ≤ a + 200 := by
  obtain ⟨t, a1, e1, q1, q2, ht⟩ := l3Draw_ev c a hc h0 (by omega)
  have hsm := okTx_sm ht
  have i4 := ht.ins4; have o1 := ht.outs1; have o4 := ht.outs4
  obtain ⟨v, e2, v0, v1⟩ := next_ev c a1 14 hc (by omega) (by omega)
  obtain ⟨x0, f0, _⟩ := pick_ev c (a1 + 1) [-1, 3, 0, 1] hc (by omega) (by simp)
  obtain ⟨x1, f1, _⟩ := pick_ev c (a1 + 1) [0, 1000, 5] hc (by omega) (by simp)
  obtain ⟨x2, f2, _⟩ := pick_ev c (a1 + 1) [0, 61, 1] hc (by omega) (by simp)
  obtain ⟨y2, g2, _⟩ := pick_ev c (a1 + 1 + 1) [0, 4] hc (by omega) (by simp)
  obtain ⟨x3, f3, _⟩ := pick_ev c (a1 + 1) [0, 1, 1000001, 99] hc (by omega) (by simp)
  obtain ⟨r4, b4, f4, hr4, hb5, hb6⟩ := l2Bent_ev c (a1 + 1) hc (by omega) (by omega)
  have hi : idxOk (0 : Int) t.fOuts.length = true := idx_ok (i := 0) (by omega)
  have hset : ∀ y : Out, smOut y → (Lm smOut) (t.fOuts.set ((0 : Int)).toNat y) := fun y hy => ⟨by rw [List.length_set]; exact hsm.2.2.2.1, fun z hz => by
    rcases List.mem_or_eq_of_mem_set hz with h | h
    · exact hsm.2.2.2.2 z h
    · rw [h]; exact hy⟩
  cases h0 : v == 0
  · cases h1 : v == 1
    · cases h2 : v == 2
      · cases h3 : v == 3
        · cases h4 : v == 4
          · cases h5 : v == 5
            · cases h6 : v == 6
              · exact ⟨_, _, Evt.bind e1 (Evt.bind e2 (Evt.f h0 (Evt.f h1 (Evt.f h2 (Evt.f h3 (Evt.f h4 (Evt.f h5 (Evt.f h6 (Evt.self _))))))))), hsm, by omega, by omega⟩
              · exact ⟨_, _, Evt.bind e1 (Evt.bind e2 (Evt.f h0 (Evt.f h1 (Evt.f h2 (Evt.f h3 (Evt.f h4 (Evt.f h5 (Evt.t h6 (Evt.chk rfl (Evt.chk rfl (Evt.self _))))))))))), ⟨trivial, trivial, hsm.2.2.1, by show (List.replicate ((5 : Int)).toNat (⟨0, ⟨[], 0, 0⟩⟩ : Out)).length ≤ _; simp, fun o ho => by
                  have : o = ⟨0, ⟨[], 0, 0⟩⟩ := (List.mem_replicate.1 ho).2
                  subst this; exact ⟨trivial, ⟨by simp, fun _ _ => trivial⟩, trivial, trivial⟩⟩, by omega, by omega⟩
            · exact ⟨_, _, Evt.bind e1 (Evt.bind e2 (Evt.f h0 (Evt.f h1 (Evt.f h2 (Evt.f h3 (Evt.f h4 (Evt.t h5 (Evt.self _)))))))), ⟨trivial, trivial, ⟨by simp, fun _ h => by cases h⟩, hsm.2.2.2⟩, by omega, by omega⟩
          · exact ⟨_, _, Evt.bind e1 (Evt.bind e2 (Evt.f h0 (Evt.f h1 (Evt.f h2 (Evt.f h3 (Evt.t h4 (Evt.bind f4 (Evt.chk hi (Evt.self _))))))))), ⟨trivial, trivial, hsm.2.2.1, hset _ ⟨trivial, ⟨by show r4.fKeys.length ≤ _; omega, fun _ _ => trivial⟩, trivial, trivial⟩⟩, by omega, by omega⟩
        · exact ⟨_, _, Evt.bind e1 (Evt.bind e2 (Evt.f h0 (Evt.f h1 (Evt.f h2 (Evt.t h3 (Evt.bind f3 (Evt.chk hi (Evt.self _)))))))), ⟨trivial, trivial, hsm.2.2.1, hset _ ⟨trivial, (hsm.2.2.2.2 _ (gt_mem (i := 0) (by omega))).2⟩⟩, by omega, by omega⟩
      · exact ⟨_, _, Evt.bind e1 (Evt.bind e2 (Evt.f h0 (Evt.f h1 (Evt.t h2 (Evt.bind f2 (Evt.bind g2 (Evt.chk (leB_mk2 (by simp; omega)) (Evt.self _)))))))), ⟨trivial, trivial, ⟨by show (t.fIns ++ [(⟨x2, y2⟩ : Ref)]).length ≤ _; simp; omega, fun _ _ => ⟨trivial, trivial⟩⟩, hsm.2.2.2⟩, by omega, by omega⟩
    · exact ⟨_, _, Evt.bind e1 (Evt.bind e2 (Evt.f h0 (Evt.t h1 (Evt.bind f1 (Evt.self _))))), ⟨trivial, trivial, hsm.2.2⟩, by omega, by omega⟩
  · exact ⟨_, _, Evt.bind e1 (Evt.bind e2 (Evt.t h0 (Evt.bind f0 (Evt.self _)))), ⟨trivial, trivial, hsm.2.2⟩, by omega, by omega⟩
theorem DrawTakeMembers_ev (c : List Int) (hc : codeOK c) : ∃ (xs : List Member) (t : Tx) (id : Int), Evt (fun k => spec_DrawTakeMembers.f k c) (xs, t, id) ∧ xs.length ≤ 10 ∧ smTx t := by
  obtain ⟨xs, a1, e1, p1, q1, hl⟩ := l6Bent_ev c 0 hc (by omega) (by omega)
  obtain ⟨t1, a2, e2, p2, q2, ht⟩ := l3Draw_ev c a1 hc (by omega) (by omega)
  have hs1 := okTx_sm ht
  obtain ⟨v3, e3⟩ := chance_ev c a2 8 hc (by omega) (by omega)
  obtain ⟨a4, t4, e4, hs4, p4, q4⟩ : ∃ (a4 : Int) (t4 : Tx), Evt (fun k => ((spec_l1Chance.f k (⟨c, a2⟩ : l1Src) 8).bind fun t2778 => (bif t2778.1 then ((spec_l3Bent.f k (⟨c, t2778.2⟩ : l1Src)).bind fun t2788 => some (t2788.2, t2788.1.fKind, t2788.1.fMember, t2788.1.fIns, t2788.1.fOuts)) else some (t2778.2, t1.fKind, t1.fMember, t1.fIns, t1.fOuts)))) (a4, t4.fKind, t4.fMember, t4.fIns, t4.fOuts) ∧ smTx t4 ∧ 0 ≤ a4 ∧ a4 ≤ 1000 := by
    cases v3
    · exact ⟨a2 + 1, t1, Evt.bind e3 (Evt.f rfl (Evt.self _)), hs1, by omega, by omega⟩
    · obtain ⟨t4, a4, e4, h4, p4, q4⟩ := l3Bent_ev c (a2 + 1) hc (by omega) (by omega)
      exact ⟨a4, t4, Evt.bind e3 (Evt.t rfl (Evt.bind e4 (Evt.self _))), h4, by omega, by omega⟩
  obtain ⟨v5, e5⟩ := chance_ev c a4 2 hc (by omega) (by omega)
  obtain ⟨a6, m6, e6, p6, q6⟩ : ∃ (a6 m6 : Int), Evt (fun k => ((spec_l1Chance.f k (⟨c, a4⟩ : l1Src) 2).bind fun t2843 => (bif ((t2843.1 && (t4.fKind != 0)) && (decide (0 < (xs.length : Int)))) then ((spec_l1Next.f k (⟨c, t2843.2⟩ : l1Src) (xs.length : Int)).bind fun t2859 => (chk (idxOk t2859.1 xs.length) (some (t2859.2, (gt xs t2859.1).fKey)))) else some (t2843.2, t4.fMember)))) (a6, m6) ∧ 0 ≤ a6 ∧ a6 ≤ 1100 := by
    cases hq : (v5 && (t4.fKind != 0)) && (decide (0 < (xs.length : Int)))
    · exact ⟨a4 + 1, t4.fMember, Evt.bind e5 (Evt.f hq (Evt.self _)), by omega, by omega⟩
    · have hx := of_decide_eq_true (Bool.and_eq_true _ _ ▸ hq).2
      obtain ⟨u, eu, u0, u1⟩ := next_ev c (a4 + 1) (xs.length : Int) hc (by omega) (by omega)
      exact ⟨_, _, Evt.bind e5 (Evt.t hq (Evt.bind eu (Evt.chk (by unfold idxOk; simp; omega) (Evt.self _)))), by omega, by omega⟩
  obtain ⟨v7, e7⟩ := chance_ev c a6 3 hc (by omega) (by omega)
  obtain ⟨b7, w7, e7', p7, q7⟩ : ∃ (w7 : Bool) (b7 : Int), Evt (fun k => (bif ((decide (0 < (xs.length : Int))) && (decide (0 < (t4.fIns.length : Int)))) then spec_l1Chance.f k (⟨c, a6⟩ : l1Src) 3 else some (default, a6))) (w7, b7) ∧ 0 ≤ b7 ∧ b7 ≤ 1200 := by
    cases hq : (decide (0 < (xs.length : Int))) && (decide (0 < (t4.fIns.length : Int)))
    · exact ⟨default, a6, Evt.f rfl (Evt.self _), by omega, by omega⟩
    · exact ⟨v7, a6 + 1, Evt.t rfl e7, by omega, by omega⟩
  obtain ⟨a8, i8, e8, hi8, p8, q8⟩ : ∃ (a8 : Int) (i8 : List Ref), Evt (fun k => ((bif ((decide (0 < (xs.length : Int))) && (decide (0 < (t4.fIns.length : Int)))) then spec_l1Chance.f k (⟨c, a6⟩ : l1Src) 3 else some (default, a6)).bind fun t2919 => (bif (((decide (0 < (xs.length : Int))) && (decide (0 < (t4.fIns.length : Int)))) && t2919.1) then ((spec_l1Next.f k (⟨c, t2919.2⟩ : l1Src) (xs.length : Int)).bind fun t2937 => (chk (idxOk t2937.1 xs.length) (some (t2937.2, ([(gt xs t2937.1).fRef] : List Ref))))) else some (t2919.2, t4.fIns)))) (a8, i8) ∧ Lm smRef i8 ∧ 0 ≤ a8 ∧ a8 ≤ 1300 := by
    cases hq : (((decide (0 < (xs.length : Int))) && (decide (0 < (t4.fIns.length : Int)))) && b7)
    · exact ⟨w7, t4.fIns, Evt.bind e7' (Evt.f hq (Evt.self _)), hs4.2.2.1, by omega, by omega⟩
    · have hx := of_decide_eq_true (Bool.and_eq_true _ _ ▸ (Bool.and_eq_true _ _ ▸ hq).1).1
      obtain ⟨u, eu, u0, u1⟩ := next_ev c w7 (xs.length : Int) hc (by omega) (by omega)
      exact ⟨_, _, Evt.bind e7' (Evt.t hq (Evt.bind eu (Evt.chk (by unfold idxOk; simp; omega) (Evt.self _)))), ⟨by simp, fun _ _ => ⟨trivial, trivial⟩⟩, by omega, by omega⟩
  obtain ⟨x, ex, x0, x1⟩ := next_ev c a8 9 hc (by omega) (by omega)
  obtain ⟨y, ey, y0, y1⟩ := next_ev c (a8 + 1) 9 hc (by omega) (by omega)
  obtain ⟨z, ez, _⟩ := pick_ev c (a8 + 1 + 1) [wrap64 (10 + x), wrap64 (10 + y), 2, 61, 0] hc (by omega) (by simp)
  exact ⟨xs, ⟨t4.fKind, m6, i8, t4.fOuts⟩, z, Evt.bind (source_ev c) (Evt.bind e1 (Evt.bind e2 (Evt.bindc5 e4 (Evt.bindc e6 (Evt.bindc e8 (Evt.bind ex (Evt.bind ey (Evt.bind ez (Evt.self _))))))))), hl, ⟨trivial, trivial, hi8, hs4.2.2.2⟩⟩
def spec_l6Fault_v (x0 : List Member) : Int := (bif (decide (8 < (x0.length : Int))) then 2 else (onO ((List.range' 0 (x0.length - 0)).findSome? (fun (i0 : Nat) => (bif ((!(spec_l1Key_v ((gt x0 (i0 : Int)).fKey))) || (!(bif (!(!(spec_l1Key_v ((gt x0 (i0 : Int)).fKey)))) then (spec_l3Ref_v ((gt x0 (i0 : Int)).fRef)) else default))) then (some 3) else (bif ((decide (0 < (i0 : Int))) && (decide (((gt x0 (i0 : Int)).fKey) ≤ ((gt x0 (wrap64 ((i0 : Int) - 1))).fKey)))) then (some 1) else none)))) (fun r => r) (onO ((List.range' 0 (x0.length - 0)).findSome? (fun (i3 : Nat) => (onO ((List.range' 0 (i3 - 0)).findSome? (fun (i4 : Nat) => (bif ((((gt x0 (i4 : Int)).fRef.fTx) == ((gt x0 (i3 : Int)).fRef.fTx)) && (((gt x0 (i4 : Int)).fRef.fAt) == ((gt x0 (i3 : Int)).fRef.fAt))) then (some 7) else none))) (fun r => (some r)) none))) (fun r => r) 0)))
theorem spec_l6Fault_ev (x0 : List Member) (h_x0 : (Lm smMember) x0) : Evt (fun k => spec_l6Fault.f k x0) (spec_l6Fault_v x0) :=
  (Evt.ifh (fun hc6 => (Evt.self _)) (fun hc6 => (Evt.loop (r' := fun r => r) (Evt.srch (L := (fun k i => spec_l6Fault.l0 x0 k i)) 0 x0.length (by have := h_x0; first | (have := this.1; omega) | omega) (fun (i0 : Nat) => (bif ((!(spec_l1Key_v ((gt x0 (i0 : Int)).fKey))) || (!(bif (!(!(spec_l1Key_v ((gt x0 (i0 : Int)).fKey)))) then (spec_l3Ref_v ((gt x0 (i0 : Int)).fRef)) else default))) then (some 3) else (bif ((decide (0 < (i0 : Int))) && (decide (((gt x0 (i0 : Int)).fKey) ≤ ((gt x0 (wrap64 ((i0 : Int) - 1))).fKey)))) then (some 1) else none))) (fun i0 hs3 hi3 => by
  have hbn : x0.length ≤ 9223372036854775807 := (by have := h_x0; first | (have := this.1; omega) | omega)
  simp only [spec_l6Fault.l0_s]
  exact Evt_t2 (int_lt hi3) (StE.chk (by first | exact idx_ok (by omega) | exact idx_ok (by have hq := len_eq (by assumption); omega) | exact idx_found (show (0 : Int) ≤ (i0 : Int) by simp_all) | exact cut_ok (by omega) | exact or_ok (idx_ok (by omega)) | (refine or1 (fun hz => pre_ok (by simp at hz; omega) (by omega) (by omega))) | exact pre_ok (by omega) (by omega) (by omega) | (simp_all [idxOk, cutOk, leB]; done) | (simp_all [idxOk, cutOk, leB]; omega) | (simp [idxOk, cutOk, leB] at *; omega) | (have hf0 := h_x0.1; simp only [leB, decide_eq_true_eq, List.length_append, List.length_cons, List.length_nil]; omega)) (StE.bind (spec_l1Key_ev ((gt x0 (i0 : Int)).fKey)) (StE.chk (by first | exact idx_ok (by omega) | exact idx_ok (by have hq := len_eq (by assumption); omega) | exact idx_found (by simp_all) | exact cut_ok (by omega) | exact or_ok (idx_ok (by omega)) | (refine or1 (fun hz => pre_ok (by simp at hz; omega) (by omega) (by omega))) | exact pre_ok (by omega) (by omega) (by omega) | (simp_all [idxOk, cutOk, leB]; done) | (simp_all [idxOk, cutOk, leB]; omega) | (simp [idxOk, cutOk, leB] at *; omega) | (have hf0 := h_x0.1; simp only [leB, decide_eq_true_eq, List.length_append, List.length_cons, List.length_nil]; omega)) (StE.bind (Evt.ifh (fun _ => (spec_l3Ref_ev ((gt x0 (i0 : Int)).fRef))) (fun _ => Evt.self _)) (StE.ifh (fun hc2 => (StE.ret _)) (fun hc2 => (StE.chk (by first | exact idx_ok (by omega) | exact idx_ok (by have hq := len_eq (by assumption); omega) | exact idx_found (by simp_all) | exact cut_ok (by omega) | exact or_ok (idx_ok (by omega)) | (refine or1 (fun hz => pre_ok (by simp at hz; omega) (by omega) (by omega))) | exact pre_ok (by omega) (by omega) (by omega) | (simp_all [idxOk, cutOk, leB]; done) | (simp_all [idxOk, cutOk, leB]; omega) | (simp [idxOk, cutOk, leB] at *; omega) | (have hf0 := h_x0.1; simp only [leB, decide_eq_true_eq, List.length_append, List.length_cons, List.length_nil]; omega)) (StE.chk (by first | exact idx_ok (by omega) | exact idx_ok (by have hq := len_eq (by assumption); omega) | exact idx_found (by simp_all) | exact cut_ok (by omega) | exact or_ok (idx_ok (by omega)) | (refine or1 (fun hz => pre_ok (by simp at hz; omega) (by omega) (by omega))) | exact pre_ok (by omega) (by omega) (by omega) | (simp_all [idxOk, cutOk, leB]; done) | (simp_all [idxOk, cutOk, leB]; omega) | (simp [idxOk, cutOk, leB] at *; omega) | (have hf0 := h_x0.1; simp only [leB, decide_eq_true_eq, List.length_append, List.length_cons, List.length_nil]; omega)) (StE.ifh (fun hc1 => (StE.ret _)) (fun hc1 => StE.next))))))))))) (fun j hj => by
  simp only [spec_l6Fault.l0_s]
  exact Evt.f (ge_lt hj) (Evt.self _))) (fun _ => rfl) (Evt.loop (r' := fun r => r) (Evt.srch (L := (fun k i => spec_l6Fault.l1 x0 k i)) 0 x0.length (by have := h_x0; first | (have := this.1; omega) | omega) (fun (i3 : Nat) => (onO ((List.range' 0 (i3 - 0)).findSome? (fun (i4 : Nat) => (bif ((((gt x0 (i4 : Int)).fRef.fTx) == ((gt x0 (i3 : Int)).fRef.fTx)) && (((gt x0 (i4 : Int)).fRef.fAt) == ((gt x0 (i3 : Int)).fRef.fAt))) then (some 7) else none))) (fun r => (some r)) none)) (fun i3 hs6 hi6 => by
  have hbn : x0.length ≤ 9223372036854775807 := (by have := h_x0; first | (have := this.1; omega) | omega)
  simp only [spec_l6Fault.l1_s]
  exact Evt_t2 (int_lt hi6) (StE.loop (r' := fun r => (some r)) (Evt.srch (L := (fun k i => spec_l6Fault.l2 x0 (i3 : Int) k i)) 0 i3 (by omega) (fun (i4 : Nat) => (bif ((((gt x0 (i4 : Int)).fRef.fTx) == ((gt x0 (i3 : Int)).fRef.fTx)) && (((gt x0 (i4 : Int)).fRef.fAt) == ((gt x0 (i3 : Int)).fRef.fAt))) then (some 7) else none)) (fun i4 hs6 hi6 => by
  have hbn : i3 ≤ 9223372036854775807 := (by omega)
  simp only [spec_l6Fault.l2_s]
  exact Evt_t2 (int_lt hi6) (StE.chk (by first | exact idx_ok (by omega) | exact idx_ok (by have hq := len_eq (by assumption); omega) | exact idx_found (show (0 : Int) ≤ (i4 : Int) by simp_all) | exact cut_ok (by omega) | exact or_ok (idx_ok (by omega)) | (refine or1 (fun hz => pre_ok (by simp at hz; omega) (by omega) (by omega))) | exact pre_ok (by omega) (by omega) (by omega) | (simp_all [idxOk, cutOk, leB]; done) | (simp_all [idxOk, cutOk, leB]; omega) | (simp [idxOk, cutOk, leB] at *; omega) | (have hf0 := h_x0.1; simp only [leB, decide_eq_true_eq, List.length_append, List.length_cons, List.length_nil]; omega)) (StE.chk (by first | exact idx_ok (by omega) | exact idx_ok (by have hq := len_eq (by assumption); omega) | exact idx_found (show (0 : Int) ≤ (i3 : Int) by simp_all) | exact cut_ok (by omega) | exact or_ok (idx_ok (by omega)) | (refine or1 (fun hz => pre_ok (by simp at hz; omega) (by omega) (by omega))) | exact pre_ok (by omega) (by omega) (by omega) | (simp_all [idxOk, cutOk, leB]; done) | (simp_all [idxOk, cutOk, leB]; omega) | (simp [idxOk, cutOk, leB] at *; omega) | (have hf0 := h_x0.1; simp only [leB, decide_eq_true_eq, List.length_append, List.length_cons, List.length_nil]; omega)) (StE.ifh (fun hc5 => (StE.ret _)) (fun hc5 => StE.next))))) (fun j hj => by
  simp only [spec_l6Fault.l2_s]
  exact Evt.f (ge_lt hj) (Evt.self _))) (fun _ => (StE.ret _)) StE.next)) (fun j hj => by
  simp only [spec_l6Fault.l1_s]
  exact Evt.f (ge_lt hj) (Evt.self _))) (fun _ => rfl) (Evt.self _)))))
def l6Keep (x1 : Tx) (m : Member) : Bool := (!((x1.fKind == 2) && (m.fKey == x1.fMember))) && !(spec_l3Among_v x1.fIns m.fRef)
theorem l6Take_loop (x0 : List Member) (x1 : Tx) (h0 : x0.length ≤ 1048576) (h1 : smTx x1) : ∀ (d j : Nat) (a : List Member), j + d = x0.length → a.length ≤ j → Evt (fun k => spec_l6Take.l0 x0 x1 k a (j : Int)) (a ++ (x0.drop j).filter (l6Keep x1))
  | 0, j, a, h, ha => by
    refine Evt.s ?_
    simp only [spec_l6Take.l0_s]
    rw [List.drop_of_length_le (by omega), List.filter_nil, List.append_nil]
    exact Evt.f (decide_eq_false (by omega)) (Evt.self _)
  | d + 1, j, a, h, ha => by
    have hj : j < x0.length := by omega
    have e0 : x0.drop j = gt x0 (j : Int) :: x0.drop (j + 1) := by rw [gt_eq (by simpa using hj)]; exact List.drop_eq_getElem_cons hj
    have ew : wrap64 ((j : Int) + 1) = ((j + 1 : Nat) : Int) := by rw [wrap64_in _ (by omega)]; omega
    refine Evt.s ?_
    simp only [spec_l6Take.l0_s, ew]
    refine Evt.t (int_lt hj) (Evt.chk (or1 fun _ => idx_ok hj) (Evt.chk (or1 fun _ => idx_ok hj) ?_))
    have ea := spec_l3Among_ev x1.fIns (gt x0 (j : Int)).fRef h1.2.2.1
    rw [e0]
    cases hg : (x1.fKind == 2) && ((gt x0 (j : Int)).fKey == x1.fMember)
    · cases hm : spec_l3Among_v x1.fIns (gt x0 (j : Int)).fRef
      · have hk : l6Keep x1 (gt x0 (j : Int)) = true := by unfold l6Keep; rw [hg, hm]; rfl
        rw [List.filter_cons_of_pos hk]
        rw [hm] at ea
        refine Evt.bind (Evt.t rfl ea) (Evt.t rfl (Evt.chk (idx_ok hj) (Evt.chk (decide_eq_true (by simp; omega)) ?_)))
        have := l6Take_loop x0 x1 h0 h1 d (j + 1) (a ++ [gt x0 (j : Int)]) (by omega) (by simp; omega)
        rw [List.append_assoc] at this
        exact this
      · have hk : ¬ l6Keep x1 (gt x0 (j : Int)) = true := by unfold l6Keep; rw [hg, hm]; exact Bool.false_ne_true
        rw [List.filter_cons_of_neg hk]
        rw [hm] at ea
        exact Evt.bind (Evt.t rfl ea) (Evt.f rfl (l6Take_loop x0 x1 h0 h1 d (j + 1) a (by omega) (by omega)))
    · have hk : ¬ l6Keep x1 (gt x0 (j : Int)) = true := by unfold l6Keep; rw [hg]; exact Bool.false_ne_true
      rw [List.filter_cons_of_neg hk]
      exact Evt.bind (Evt.f rfl (Evt.self _)) (Evt.f rfl (l6Take_loop x0 x1 h0 h1 d (j + 1) a (by omega) (by omega)))
def spec_l6Take_v (x0 : List Member) (x1 : Tx) (x2 : Int) : (List Member) × Int :=
  bif (x1.fKind == 2) && decide ((bif x1.fKind == 2 then spec_l6At_v x0 x1.fMember else default) < 0) then ([], 4) else bif x1.fKind != 1 then (x0.filter (l6Keep x1), 0) else spec_l6Join_v (x0.filter (l6Keep x1)) ⟨x1.fMember, ⟨x2, 0⟩⟩
theorem spec_l6Take_ev (x0 : List Member) (x1 : Tx) (x2 : Int) (h_x0 : Lm smMember x0) (h_x1 : smTx x1) : Evt (fun k => spec_l6Take.f k x0 x1 x2) (spec_l6Take_v x0 x1 x2) := by
  refine Evt.bind (Evt.ifh (fun _ => spec_l6At_ev x0 x1.fMember h_x0) (fun _ => Evt.self _)) ?_
  unfold spec_l6Take_v
  cases (x1.fKind == 2) && decide ((bif x1.fKind == 2 then spec_l6At_v x0 x1.fMember else default) < 0)
  · have e := l6Take_loop x0 x1 h_x0.1 h_x1 x0.length 0 [] (by omega) (by simp)
    rw [List.drop_zero, List.nil_append] at e
    refine Evt.f rfl (Evt.bind e ?_)
    cases x1.fKind != 1
    · exact Evt.f rfl (Evt.bind (spec_l6Join_ev _ _ (Lm_sub h_x0 List.filter_sublist)) (Evt.self _))
    · exact Evt.t rfl (Evt.self _)
  · exact Evt.t rfl (Evt.self _)
def spec_TakeMembers_v (x0 : List Member) (x1 : Tx) (x2 : Int) : MembersResult := (bif ((spec_l6Fault_v x0) != 0) then (⟨(spec_l6Fault_v x0), ([] : List Member)⟩ : MembersResult) else (bif ((spec_l3Fault_v x1) != 0) then (⟨(spec_l3Fault_v x1), ([] : List Member)⟩ : MembersResult) else (bif !(spec_l1In_v x2 1 60) then (⟨3, ([] : List Member)⟩ : MembersResult) else (bif ((spec_l6Take_v x0 x1 x2).2 != 0) then (⟨(spec_l6Take_v x0 x1 x2).2, ([] : List Member)⟩ : MembersResult) else (⟨0, (spec_l6Take_v x0 x1 x2).1⟩ : MembersResult)))))
theorem spec_TakeMembers_ev (x0 : List Member) (x1 : Tx) (x2 : Int) (h_x0 : (Lm smMember) x0) (h_x1 : smTx x1) : Evt (fun k => spec_TakeMembers.f k x0 x1 x2) (spec_TakeMembers_v x0 x1 x2) :=
  (Evt.bind (spec_l6Fault_ev x0 (h_x0)) (Evt.ifh (fun hc3 => (Evt.self _)) (fun hc3 => (Evt.bind (spec_l3Fault_ev x1 (h_x1)) (Evt.ifh (fun hc2 => (Evt.self _)) (fun hc2 => (Evt.bind (spec_l1In_ev x2 1 60) (Evt.ifh (fun hc1 => (Evt.self _)) (fun hc1 => (Evt.bind (spec_l6Take_ev x0 x1 x2 (h_x0) (h_x1)) (Evt.ifh (fun hc0 => (Evt.self _)) (fun hc0 => (Evt.self _)))))))))))))
def impl_within_v (x0 : Int) (x1 : Int) (x2 : Int) : Bool := ((decide (x1 ≤ x0)) && (decide (x0 ≤ x2)))
theorem impl_within_ev (x0 : Int) (x1 : Int) (x2 : Int)  : Evt (fun k => impl_within.f k x0 x1 x2) (impl_within_v x0 x1 x2) :=
  (Evt.self _)
def impl_isKey_v (x0 : Int) : Bool := (impl_within_v x0 1 999)
theorem impl_isKey_ev (x0 : Int)  : Evt (fun k => impl_isKey.f k x0) (impl_isKey_v x0) :=
  (Evt.bind (impl_within_ev x0 1 999) (Evt.self _))
def impl_isId_v (x0 : Int) : Bool := (impl_within_v x0 1 60)
theorem impl_isId_ev (x0 : Int)  : Evt (fun k => impl_isId.f k x0) (impl_isId_v x0) :=
  (Evt.bind (impl_within_ev x0 1 60) (Evt.self _))
def impl_isRef_v (x0 : Ref) : Bool := ((impl_isId_v x0.fTx) && (bif (impl_isId_v x0.fTx) then (impl_within_v x0.fAt 0 3) else default))
theorem impl_isRef_ev (x0 : Ref)  : Evt (fun k => impl_isRef.f k x0) (impl_isRef_v x0) :=
  (Evt.bind (impl_isId_ev x0.fTx) (Evt.bind (Evt.ifh (fun _ => (impl_within_ev x0.fAt 0 3)) (fun _ => Evt.self _)) (Evt.self _)))
def impl_MembersFault_1_v (x0 : Member) (x1 : Member) : Bool := ((x0.fRef.fTx == x1.fRef.fTx) && (x0.fRef.fAt == x1.fRef.fAt))
theorem impl_MembersFault_1_ev (x0 : Member) (x1 : Member)  : Evt (fun k => impl_MembersFault_1.f k x0 x1) (impl_MembersFault_1_v x0 x1) :=
  (Evt.self _)
def slices_IndexFunc_impl_Member_v (x0 : List Member) (x1_0 : Member) : Int := (onO ((List.range' 0 (x0.length - 0)).findSome? (fun (i0 : Nat) => (bif (impl_MembersFault_1_v (gt x0 (i0 : Int)) x1_0) then (some (i0 : Int)) else none))) (fun r => r) (-1))
theorem slices_IndexFunc_impl_Member_ev (x0 : List Member) (x1_0 : Member) (h_x0 : (Lm smMember) x0) : Evt (fun k => slices_IndexFunc_impl_Member.f k x0 x1_0) (slices_IndexFunc_impl_Member_v x0 x1_0) :=
  (Evt.loop (r' := fun r => r) (Evt.srch (L := (fun k i => slices_IndexFunc_impl_Member.l0 x0 x1_0 k i)) 0 x0.length (by have := h_x0; first | (have := this.1; omega) | omega) (fun (i0 : Nat) => (bif (impl_MembersFault_1_v (gt x0 (i0 : Int)) x1_0) then (some (i0 : Int)) else none)) (fun i0 hs2 hi2 => by
  have hbn : x0.length ≤ 9223372036854775807 := (by have := h_x0; first | (have := this.1; omega) | omega)
  simp only [slices_IndexFunc_impl_Member.l0_s]
  exact Evt_t2 (int_lt hi2) (StE.chk (by first | exact idx_ok (by omega) | exact idx_ok (by have hq := len_eq (by assumption); omega) | exact idx_found (show (0 : Int) ≤ (i0 : Int) by simp_all) | exact cut_ok (by omega) | exact or_ok (idx_ok (by omega)) | (refine or1 (fun hz => pre_ok (by simp at hz; omega) (by omega) (by omega))) | exact pre_ok (by omega) (by omega) (by omega) | (simp_all [idxOk, cutOk, leB]; done) | (simp_all [idxOk, cutOk, leB]; omega) | (simp [idxOk, cutOk, leB] at *; omega) | (have hf0 := h_x0.1; simp only [leB, decide_eq_true_eq, List.length_append, List.length_cons, List.length_nil]; omega)) (StE.bind (impl_MembersFault_1_ev (gt x0 (i0 : Int)) x1_0) (StE.ifh (fun hc1 => (StE.ret _)) (fun hc1 => StE.next))))) (fun j hj => by
  simp only [slices_IndexFunc_impl_Member.l0_s]
  exact Evt.f (ge_lt hj) (Evt.self _))) (fun _ => rfl) (Evt.self _))
def slices_ContainsFunc_impl_Member_v (x0 : List Member) (x1_0 : Member) : Bool := (decide (0 ≤ (slices_IndexFunc_impl_Member_v x0 x1_0)))
theorem slices_ContainsFunc_impl_Member_ev (x0 : List Member) (x1_0 : Member) (h_x0 : (Lm smMember) x0) : Evt (fun k => slices_ContainsFunc_impl_Member.f k x0 x1_0) (slices_ContainsFunc_impl_Member_v x0 x1_0) :=
  (Evt.bind (slices_IndexFunc_impl_Member_ev x0 x1_0 (h_x0)) (Evt.self _))
theorem slices_ContainsFunc_impl_Member_any (x0 : List Member) (x1_0 : Member) : slices_ContainsFunc_impl_Member_v x0 x1_0 = (List.range' 0 (x0.length - 0)).any (fun (i0 : Nat) => (impl_MembersFault_1_v (gt x0 (i0 : Int)) x1_0)) := idx_any _ _
def impl_MembersFault_v (x0 : List Member) : Int := (bif (decide (8 < (x0.length : Int))) then 2 else (onO ((List.range' 0 (x0.length - 0)).findSome? (fun (i0 : Nat) => (bif ((!(impl_isKey_v ((gt x0 (i0 : Int)).fKey))) || (!(bif (!(!(impl_isKey_v ((gt x0 (i0 : Int)).fKey)))) then (impl_isRef_v ((gt x0 (i0 : Int)).fRef)) else default))) then (some 3) else (bif ((decide (0 < (i0 : Int))) && (decide (((gt x0 (i0 : Int)).fKey) ≤ ((gt x0 (wrap64 ((i0 : Int) - 1))).fKey)))) then (some 1) else none)))) (fun r => r) (onO ((List.range' 0 (x0.length - 0)).findSome? (fun (i3 : Nat) => (bif (slices_ContainsFunc_impl_Member_v (x0.take ((i3 : Int)).toNat) (gt x0 (i3 : Int))) then (some 7) else none))) (fun r => r) 0)))
theorem impl_MembersFault_ev (x0 : List Member) (h_x0 : (Lm smMember) x0) : Evt (fun k => impl_MembersFault.f k x0) (impl_MembersFault_v x0) :=
  (Evt.ifh (fun hc5 => (Evt.self _)) (fun hc5 => (Evt.loop (r' := fun r => r) (Evt.srch (L := (fun k i => impl_MembersFault.l0 x0 k i)) 0 x0.length (by have := h_x0; first | (have := this.1; omega) | omega) (fun (i0 : Nat) => (bif ((!(impl_isKey_v ((gt x0 (i0 : Int)).fKey))) || (!(bif (!(!(impl_isKey_v ((gt x0 (i0 : Int)).fKey)))) then (impl_isRef_v ((gt x0 (i0 : Int)).fRef)) else default))) then (some 3) else (bif ((decide (0 < (i0 : Int))) && (decide (((gt x0 (i0 : Int)).fKey) ≤ ((gt x0 (wrap64 ((i0 : Int) - 1))).fKey)))) then (some 1) else none))) (fun i0 hs3 hi3 => by
  have hbn : x0.length ≤ 9223372036854775807 := (by have := h_x0; first | (have := this.1; omega) | omega)
  simp only [impl_MembersFault.l0_s]
  exact Evt_t2 (int_lt hi3) (StE.chk (by first | exact idx_ok (by omega) | exact idx_ok (by have hq := len_eq (by assumption); omega) | exact idx_found (show (0 : Int) ≤ (i0 : Int) by simp_all) | exact cut_ok (by omega) | exact or_ok (idx_ok (by omega)) | (refine or1 (fun hz => pre_ok (by simp at hz; omega) (by omega) (by omega))) | exact pre_ok (by omega) (by omega) (by omega) | (simp_all [idxOk, cutOk, leB]; done) | (simp_all [idxOk, cutOk, leB]; omega) | (simp [idxOk, cutOk, leB] at *; omega) | (have hf0 := h_x0.1; simp only [leB, decide_eq_true_eq, List.length_append, List.length_cons, List.length_nil]; omega)) (StE.bind (impl_isKey_ev ((gt x0 (i0 : Int)).fKey)) (StE.bind (Evt.ifh (fun _ => (impl_isRef_ev ((gt x0 (i0 : Int)).fRef))) (fun _ => Evt.self _)) (StE.ifh (fun hc2 => (StE.ret _)) (fun hc2 => (StE.chk (by first | exact idx_ok (by omega) | exact idx_ok (by have hq := len_eq (by assumption); omega) | exact idx_found (by simp_all) | exact cut_ok (by omega) | exact or_ok (idx_ok (by omega)) | (refine or1 (fun hz => pre_ok (by simp at hz; omega) (by omega) (by omega))) | exact pre_ok (by omega) (by omega) (by omega) | (simp_all [idxOk, cutOk, leB]; done) | (simp_all [idxOk, cutOk, leB]; omega) | (simp [idxOk, cutOk, leB] at *; omega) | (have hf0 := h_x0.1; simp only [leB, decide_eq_true_eq, List.length_append, List.length_cons, List.length_nil]; omega)) (StE.ifh (fun hc1 => (StE.ret _)) (fun hc1 => StE.next))))))))) (fun j hj => by
  simp only [impl_MembersFault.l0_s]
  exact Evt.f (ge_lt hj) (Evt.self _))) (fun _ => rfl) (Evt.loop (r' := fun r => r) (Evt.srch (L := (fun k i => impl_MembersFault.l1 x0 k i)) 0 x0.length (by have := h_x0; first | (have := this.1; omega) | omega) (fun (i3 : Nat) => (bif (slices_ContainsFunc_impl_Member_v (x0.take ((i3 : Int)).toNat) (gt x0 (i3 : Int))) then (some 7) else none)) (fun i3 hs5 hi5 => by
  have hbn : x0.length ≤ 9223372036854775807 := (by have := h_x0; first | (have := this.1; omega) | omega)
  simp only [impl_MembersFault.l1_s]
  exact Evt_t2 (int_lt hi5) (StE.chk (by first | exact idx_ok (by omega) | exact idx_ok (by have hq := len_eq (by assumption); omega) | exact idx_found (show (0 : Int) ≤ (i3 : Int) by simp_all) | exact cut_ok (by omega) | exact or_ok (idx_ok (by omega)) | (refine or1 (fun hz => pre_ok (by simp at hz; omega) (by omega) (by omega))) | exact pre_ok (by omega) (by omega) (by omega) | (simp_all [idxOk, cutOk, leB]; done) | (simp_all [idxOk, cutOk, leB]; omega) | (simp [idxOk, cutOk, leB] at *; omega) | (have hf0 := h_x0.1; simp only [leB, decide_eq_true_eq, List.length_append, List.length_cons, List.length_nil]; omega)) (StE.chk (by first | exact idx_ok (by omega) | exact idx_ok (by have hq := len_eq (by assumption); omega) | exact idx_found (by simp_all) | exact cut_ok (by omega) | exact or_ok (idx_ok (by omega)) | (refine or1 (fun hz => pre_ok (by simp at hz; omega) (by omega) (by omega))) | exact pre_ok (by omega) (by omega) (by omega) | (simp_all [idxOk, cutOk, leB]; done) | (simp_all [idxOk, cutOk, leB]; omega) | (simp [idxOk, cutOk, leB] at *; omega) | (have hf0 := h_x0.1; simp only [leB, decide_eq_true_eq, List.length_append, List.length_cons, List.length_nil]; omega)) (StE.bind (slices_ContainsFunc_impl_Member_ev (x0.take ((i3 : Int)).toNat) (gt x0 (i3 : Int)) ((Lm_take h_x0))) (StE.ifh (fun hc4 => (StE.ret _)) (fun hc4 => StE.next)))))) (fun j hj => by
  simp only [impl_MembersFault.l1_s]
  exact Evt.f (ge_lt hj) (Evt.self _))) (fun _ => rfl) (Evt.self _)))))
def impl_TxFault_1_v (x0 : Int) : Bool := ((decide (x0 < 1)) || (decide (4 < x0)))
theorem impl_TxFault_1_ev (x0 : Int)  : Evt (fun k => impl_TxFault_1.f k x0) (impl_TxFault_1_v x0) :=
  (Evt.self _)
def slices_Index_impl_Ref_v (x0 : List Ref) (x1 : Ref) : Int := (onO ((List.range' 0 (x0.length - 0)).findSome? (fun (i0 : Nat) => (bif ((x1.fTx == ((gt x0 (i0 : Int)).fTx)) && (x1.fAt == ((gt x0 (i0 : Int)).fAt))) then (some (i0 : Int)) else none))) (fun r => r) (-1))
theorem slices_Index_impl_Ref_ev (x0 : List Ref) (x1 : Ref) (h_x0 : (Lm smRef) x0) : Evt (fun k => slices_Index_impl_Ref.f k x0 x1) (slices_Index_impl_Ref_v x0 x1) :=
  (Evt.loop (r' := fun r => r) (Evt.srch (L := (fun k i => slices_Index_impl_Ref.l0 x0 x1 k i)) 0 x0.length (by have := h_x0; first | (have := this.1; omega) | omega) (fun (i0 : Nat) => (bif ((x1.fTx == ((gt x0 (i0 : Int)).fTx)) && (x1.fAt == ((gt x0 (i0 : Int)).fAt))) then (some (i0 : Int)) else none)) (fun i0 hs2 hi2 => by
  have hbn : x0.length ≤ 9223372036854775807 := (by have := h_x0; first | (have := this.1; omega) | omega)
  simp only [slices_Index_impl_Ref.l0_s]
  exact Evt_t2 (int_lt hi2) (StE.chk (by first | exact idx_ok (by omega) | exact idx_ok (by have hq := len_eq (by assumption); omega) | exact idx_found (show (0 : Int) ≤ (i0 : Int) by simp_all) | exact cut_ok (by omega) | exact or_ok (idx_ok (by omega)) | (refine or1 (fun hz => pre_ok (by simp at hz; omega) (by omega) (by omega))) | exact pre_ok (by omega) (by omega) (by omega) | (simp_all [idxOk, cutOk, leB]; done) | (simp_all [idxOk, cutOk, leB]; omega) | (simp [idxOk, cutOk, leB] at *; omega) | (have hf0 := h_x0.1; simp only [leB, decide_eq_true_eq, List.length_append, List.length_cons, List.length_nil]; omega)) (StE.ifh (fun hc1 => (StE.ret _)) (fun hc1 => StE.next)))) (fun j hj => by
  simp only [slices_Index_impl_Ref.l0_s]
  exact Evt.f (ge_lt hj) (Evt.self _))) (fun _ => rfl) (Evt.self _))
def slices_Contains_impl_Ref_v (x0 : List Ref) (x1 : Ref) : Bool := (decide (0 ≤ (slices_Index_impl_Ref_v x0 x1)))
theorem slices_Contains_impl_Ref_ev (x0 : List Ref) (x1 : Ref) (h_x0 : (Lm smRef) x0) : Evt (fun k => slices_Contains_impl_Ref.f k x0 x1) (slices_Contains_impl_Ref_v x0 x1) :=
  (Evt.bind (slices_Index_impl_Ref_ev x0 x1 (h_x0)) (Evt.self _))
theorem slices_Contains_impl_Ref_any (x0 : List Ref) (x1 : Ref) : slices_Contains_impl_Ref_v x0 x1 = (List.range' 0 (x0.length - 0)).any (fun (i0 : Nat) => ((x1.fTx == ((gt x0 (i0 : Int)).fTx)) && (x1.fAt == ((gt x0 (i0 : Int)).fAt)))) := idx_any _ _
def impl_areKeys_1_v (x0 : Int) : Bool := (!(impl_isKey_v x0))
theorem impl_areKeys_1_ev (x0 : Int)  : Evt (fun k => impl_areKeys_1.f k x0) (impl_areKeys_1_v x0) :=
  (Evt.bind (impl_isKey_ev x0) (Evt.self _))
def slices_IndexFunc_int64_v (x0 : List Int) : Int := (onO ((List.range' 0 (x0.length - 0)).findSome? (fun (i0 : Nat) => (bif (impl_areKeys_1_v (gt x0 (i0 : Int))) then (some (i0 : Int)) else none))) (fun r => r) (-1))
theorem slices_IndexFunc_int64_ev (x0 : List Int) (h_x0 : (Lm tr) x0) : Evt (fun k => slices_IndexFunc_int64.f k x0) (slices_IndexFunc_int64_v x0) :=
  (Evt.loop (r' := fun r => r) (Evt.srch (L := (fun k i => slices_IndexFunc_int64.l0 x0 k i)) 0 x0.length (by have := h_x0; first | (have := this.1; omega) | omega) (fun (i0 : Nat) => (bif (impl_areKeys_1_v (gt x0 (i0 : Int))) then (some (i0 : Int)) else none)) (fun i0 hs2 hi2 => by
  have hbn : x0.length ≤ 9223372036854775807 := (by have := h_x0; first | (have := this.1; omega) | omega)
  simp only [slices_IndexFunc_int64.l0_s]
  exact Evt_t2 (int_lt hi2) (StE.chk (by first | exact idx_ok (by omega) | exact idx_ok (by have hq := len_eq (by assumption); omega) | exact idx_found (show (0 : Int) ≤ (i0 : Int) by simp_all) | exact cut_ok (by omega) | exact or_ok (idx_ok (by omega)) | (refine or1 (fun hz => pre_ok (by simp at hz; omega) (by omega) (by omega))) | exact pre_ok (by omega) (by omega) (by omega) | (simp_all [idxOk, cutOk, leB]; done) | (simp_all [idxOk, cutOk, leB]; omega) | (simp [idxOk, cutOk, leB] at *; omega) | (have hf0 := h_x0.1; simp only [leB, decide_eq_true_eq, List.length_append, List.length_cons, List.length_nil]; omega)) (StE.bind (impl_areKeys_1_ev (gt x0 (i0 : Int))) (StE.ifh (fun hc1 => (StE.ret _)) (fun hc1 => StE.next))))) (fun j hj => by
  simp only [slices_IndexFunc_int64.l0_s]
  exact Evt.f (ge_lt hj) (Evt.self _))) (fun _ => rfl) (Evt.self _))
def slices_ContainsFunc_int64_v (x0 : List Int) : Bool := (decide (0 ≤ (slices_IndexFunc_int64_v x0)))
theorem slices_ContainsFunc_int64_ev (x0 : List Int) (h_x0 : (Lm tr) x0) : Evt (fun k => slices_ContainsFunc_int64.f k x0) (slices_ContainsFunc_int64_v x0) :=
  (Evt.bind (slices_IndexFunc_int64_ev x0 (h_x0)) (Evt.self _))
theorem slices_ContainsFunc_int64_any (x0 : List Int) : slices_ContainsFunc_int64_v x0 = (List.range' 0 (x0.length - 0)).any (fun (i0 : Nat) => (impl_areKeys_1_v (gt x0 (i0 : Int)))) := idx_any _ _
def impl_areKeys_v (x0 : List Int) : Bool := (!(slices_ContainsFunc_int64_v x0))
theorem impl_areKeys_ev (x0 : List Int) (h_x0 : (Lm tr) x0) : Evt (fun k => impl_areKeys.f k x0) (impl_areKeys_v x0) :=
  (Evt.bind (slices_ContainsFunc_int64_ev x0 (h_x0)) (Evt.self _))
def impl_isHeight_v (x0 : Int) : Bool := (impl_within_v x0 0 999)
theorem impl_isHeight_ev (x0 : Int)  : Evt (fun k => impl_isHeight.f k x0) (impl_isHeight_v x0) :=
  (Evt.bind (impl_within_ev x0 0 999) (Evt.self _))
def impl_isRising_v (x0 : List Int) : Bool := (onO ((List.range' 1 (x0.length - 1)).findSome? (fun (i0 : Nat) => (bif (decide ((gt x0 (i0 : Int)) ≤ (gt x0 (wrap64 ((i0 : Int) - 1))))) then (some false) else none))) (fun r => r) true)
theorem impl_isRising_ev (x0 : List Int) (h_x0 : (Lm tr) x0) : Evt (fun k => impl_isRising.f k x0) (impl_isRising_v x0) :=
  (Evt.loop (r' := fun r => r) (Evt.srch (L := (fun k i => impl_isRising.l0 x0 k i)) 1 x0.length (by have := h_x0; first | (have := this.1; omega) | omega) (fun (i0 : Nat) => (bif (decide ((gt x0 (i0 : Int)) ≤ (gt x0 (wrap64 ((i0 : Int) - 1))))) then (some false) else none)) (fun i0 hs2 hi2 => by
  have hbn : x0.length ≤ 9223372036854775807 := (by have := h_x0; first | (have := this.1; omega) | omega)
  simp only [impl_isRising.l0_s]
  exact Evt_t2 (int_lt hi2) (StE.chk (by first | exact idx_ok (by omega) | exact idx_ok (by have hq := len_eq (by assumption); omega) | exact idx_found (show (0 : Int) ≤ (i0 : Int) by simp_all) | exact cut_ok (by omega) | exact or_ok (idx_ok (by omega)) | (refine or1 (fun hz => pre_ok (by simp at hz; omega) (by omega) (by omega))) | exact pre_ok (by omega) (by omega) (by omega) | (simp_all [idxOk, cutOk, leB]; done) | (simp_all [idxOk, cutOk, leB]; omega) | (simp [idxOk, cutOk, leB] at *; omega) | (have hf0 := h_x0.1; simp only [leB, decide_eq_true_eq, List.length_append, List.length_cons, List.length_nil]; omega)) (StE.chk (by first | exact idx_ok (by omega) | exact idx_ok (by have hq := len_eq (by assumption); omega) | exact idx_found (show (0 : Int) ≤ (wrap64 ((i0 : Int) - 1)) by simp_all) | exact cut_ok (by omega) | exact or_ok (idx_ok (by omega)) | (refine or1 (fun hz => pre_ok (by simp at hz; omega) (by omega) (by omega))) | exact pre_ok (by omega) (by omega) (by omega) | (simp_all [idxOk, cutOk, leB]; done) | (simp_all [idxOk, cutOk, leB]; omega) | (simp [idxOk, cutOk, leB] at *; omega) | (have hf0 := h_x0.1; simp only [leB, decide_eq_true_eq, List.length_append, List.length_cons, List.length_nil]; omega)) (StE.ifh (fun hc1 => (StE.ret _)) (fun hc1 => StE.next))))) (fun j hj => by
  simp only [impl_isRising.l0_s]
  exact Evt.f (ge_lt hj) (Evt.self _))) (fun _ => rfl) (Evt.self _))
def impl_RuleFault_v (x0 : Rule) : Int := (bif !(impl_within_v (x0.fKeys.length : Int) 1 3) then 2 else (bif (((!(impl_areKeys_v x0.fKeys)) || (!(bif (!(!(impl_areKeys_v x0.fKeys))) then (impl_within_v x0.fNeed 1 (x0.fKeys.length : Int)) else default))) || (!(bif (!((!(impl_areKeys_v x0.fKeys)) || (!(bif (!(!(impl_areKeys_v x0.fKeys))) then (impl_within_v x0.fNeed 1 (x0.fKeys.length : Int)) else default)))) then (impl_isHeight_v x0.fAfter) else default))) then 3 else (bif !(impl_isRising_v x0.fKeys) then 1 else 0)))
theorem impl_RuleFault_ev (x0 : Rule) (h_x0 : smRule x0) : Evt (fun k => impl_RuleFault.f k x0) (impl_RuleFault_v x0) :=
  (Evt.bind (impl_within_ev (x0.fKeys.length : Int) 1 3) (Evt.ifh (fun hc2 => (Evt.self _)) (fun hc2 => (Evt.bind (impl_areKeys_ev x0.fKeys (h_x0.1)) (Evt.bind (Evt.ifh (fun _ => (impl_within_ev x0.fNeed 1 (x0.fKeys.length : Int))) (fun _ => Evt.self _)) (Evt.bind (Evt.ifh (fun _ => (impl_isHeight_ev x0.fAfter)) (fun _ => Evt.self _)) (Evt.ifh (fun hc1 => (Evt.self _)) (fun hc1 => (Evt.bind (impl_isRising_ev x0.fKeys (h_x0.1)) (Evt.ifh (fun hc0 => (Evt.self _)) (fun hc0 => (Evt.self _))))))))))))
theorem ruleFault_same (x0 : Rule) : impl_RuleFault_v x0 = spec_l2Fault_v x0 := by
  simp only [impl_RuleFault_v, spec_l2Fault_v, impl_areKeys_v, slices_ContainsFunc_int64_any, impl_areKeys_1_v, impl_isKey_v, spec_l1Key_v, impl_within_v, spec_l1In_v, impl_isHeight_v, spec_l2Height_v, impl_isRising_v, found_any]
  generalize (List.range' 0 (x0.fKeys.length - 0)).any _ = a
  generalize (List.range' 1 (x0.fKeys.length - 1)).any _ = b
  generalize (decide (1 ≤ x0.fNeed) && decide (x0.fNeed ≤ (x0.fKeys.length : Int))) = c
  generalize (decide (0 ≤ x0.fAfter) && decide (x0.fAfter ≤ 999)) = d
  generalize (decide (1 ≤ (x0.fKeys.length : Int)) && decide ((x0.fKeys.length : Int) ≤ 3)) = e
  cases a <;> cases b <;> cases c <;> cases d <;> cases e <;> rfl
def impl_outFault_v (x0 : Out) : Int := (bif !(impl_within_v x0.fValue 1 1000000) then 3 else (impl_RuleFault_v x0.fRule))
theorem impl_outFault_ev (x0 : Out) (h_x0 : smOut x0) : Evt (fun k => impl_outFault.f k x0) (impl_outFault_v x0) :=
  (Evt.bind (impl_within_ev x0.fValue 1 1000000) (Evt.ifh (fun hc0 => (Evt.self _)) (fun hc0 => (Evt.bind (impl_RuleFault_ev x0.fRule (h_x0.2)) (Evt.self _)))))
def impl_TxFault_v (x0 : Tx) : Int := (bif ((!(impl_within_v x0.fKind 0 2)) || ((x0.fKind == 0) != (x0.fMember == 0))) then 1 else (bif ((x0.fMember != 0) && (!(bif (x0.fMember != 0) then (impl_isKey_v x0.fMember) else default))) then 3 else (bif ((impl_TxFault_1_v (x0.fIns.length : Int)) || (bif (!(impl_TxFault_1_v (x0.fIns.length : Int))) then (impl_TxFault_1_v (x0.fOuts.length : Int)) else default)) then 2 else (onO ((List.range' 0 (x0.fIns.length - 0)).findSome? (fun (i0 : Nat) => (bif !(impl_isRef_v (gt x0.fIns (i0 : Int))) then (some 3) else (bif (slices_Contains_impl_Ref_v (x0.fIns.take ((i0 : Int)).toNat) (gt x0.fIns (i0 : Int))) then (some 7) else none)))) (fun r => r) (onO ((List.range' 0 (x0.fOuts.length - 0)).findSome? (fun (i3 : Nat) => (bif ((impl_outFault_v (gt x0.fOuts (i3 : Int))) != 0) then (some (impl_outFault_v (gt x0.fOuts (i3 : Int)))) else none))) (fun r => r) (bif ((x0.fKind == 1) && (decide (((gt x0.fOuts (0 : Int)).fValue) < 100))) then 8 else 0))))))
theorem impl_TxFault_ev (x0 : Tx) (h_x0 : smTx x0) : Evt (fun k => impl_TxFault.f k x0) (impl_TxFault_v x0) :=
  (Evt.bind (impl_within_ev x0.fKind 0 2) (Evt.ifh (fun hc8 => (Evt.self _)) (fun hc8 => (Evt.bind (Evt.ifh (fun _ => (impl_isKey_ev x0.fMember)) (fun _ => Evt.self _)) (Evt.ifh (fun hc7 => (Evt.self _)) (fun hc7 => (Evt.bind (impl_TxFault_1_ev (x0.fIns.length : Int)) (Evt.bind (Evt.ifh (fun _ => (impl_TxFault_1_ev (x0.fOuts.length : Int))) (fun _ => Evt.self _)) (Evt.ifh (fun hc6 => (Evt.self _)) (fun hc6 => (Evt.loop (r' := fun r => r) (Evt.srch (L := (fun k i => impl_TxFault.l0 x0 k i)) 0 x0.fIns.length (by have := h_x0.2.2.1; first | (have := this.1; omega) | omega) (fun (i0 : Nat) => (bif !(impl_isRef_v (gt x0.fIns (i0 : Int))) then (some 3) else (bif (slices_Contains_impl_Ref_v (x0.fIns.take ((i0 : Int)).toNat) (gt x0.fIns (i0 : Int))) then (some 7) else none))) (fun i0 hs3 hi3 => by
  have hbn : x0.fIns.length ≤ 9223372036854775807 := (by have := h_x0.2.2.1; first | (have := this.1; omega) | omega)
  simp only [impl_TxFault.l0_s]
  exact Evt_t2 (int_lt hi3) (StE.chk (by first | exact idx_ok (by omega) | exact idx_ok (by have hq := len_eq (by assumption); omega) | exact idx_found (show (0 : Int) ≤ (i0 : Int) by simp_all) | exact cut_ok (by omega) | exact or_ok (idx_ok (by omega)) | (refine or1 (fun hz => pre_ok (by simp at hz; omega) (by omega) (by omega))) | exact pre_ok (by omega) (by omega) (by omega) | (simp_all [idxOk, cutOk, leB]; done) | (simp_all [idxOk, cutOk, leB]; omega) | (simp [idxOk, cutOk, leB] at *; omega) | (simp_all [idxOk, impl_TxFault_1_v]; omega) | (have hf0 := h_x0.2.2.1.1; have hf1 := h_x0.2.2.2.1; simp only [leB, decide_eq_true_eq, List.length_append, List.length_cons, List.length_nil]; omega)) (StE.bind (impl_isRef_ev (gt x0.fIns (i0 : Int))) (StE.ifh (fun hc2 => (StE.ret _)) (fun hc2 => (StE.chk (by first | exact idx_ok (by omega) | exact idx_ok (by have hq := len_eq (by assumption); omega) | exact idx_found (by simp_all) | exact cut_ok (by omega) | exact or_ok (idx_ok (by omega)) | (refine or1 (fun hz => pre_ok (by simp at hz; omega) (by omega) (by omega))) | exact pre_ok (by omega) (by omega) (by omega) | (simp_all [idxOk, cutOk, leB]; done) | (simp_all [idxOk, cutOk, leB]; omega) | (simp [idxOk, cutOk, leB] at *; omega) | (simp_all [idxOk, impl_TxFault_1_v]; omega) | (have hf0 := h_x0.2.2.1.1; have hf1 := h_x0.2.2.2.1; simp only [leB, decide_eq_true_eq, List.length_append, List.length_cons, List.length_nil]; omega)) (StE.bind (slices_Contains_impl_Ref_ev (x0.fIns.take ((i0 : Int)).toNat) (gt x0.fIns (i0 : Int)) ((Lm_take h_x0.2.2.1))) (StE.ifh (fun hc1 => (StE.ret _)) (fun hc1 => StE.next))))))))) (fun j hj => by
  simp only [impl_TxFault.l0_s]
  exact Evt.f (ge_lt hj) (Evt.self _))) (fun _ => rfl) (Evt.loop (r' := fun r => r) (Evt.srch (L := (fun k i => impl_TxFault.l1 x0 k i)) 0 x0.fOuts.length (by have := h_x0.2.2.2; first | (have := this.1; omega) | omega) (fun (i3 : Nat) => (bif ((impl_outFault_v (gt x0.fOuts (i3 : Int))) != 0) then (some (impl_outFault_v (gt x0.fOuts (i3 : Int)))) else none)) (fun i3 hs5 hi5 => by
  have hbn : x0.fOuts.length ≤ 9223372036854775807 := (by have := h_x0.2.2.2; first | (have := this.1; omega) | omega)
  simp only [impl_TxFault.l1_s]
  exact Evt_t2 (int_lt hi5) (StE.chk (by first | exact idx_ok (by omega) | exact idx_ok (by have hq := len_eq (by assumption); omega) | exact idx_found (show (0 : Int) ≤ (i3 : Int) by simp_all) | exact cut_ok (by omega) | exact or_ok (idx_ok (by omega)) | (refine or1 (fun hz => pre_ok (by simp at hz; omega) (by omega) (by omega))) | exact pre_ok (by omega) (by omega) (by omega) | (simp_all [idxOk, cutOk, leB]; done) | (simp_all [idxOk, cutOk, leB]; omega) | (simp [idxOk, cutOk, leB] at *; omega) | (simp_all [idxOk, impl_TxFault_1_v]; omega) | (have hf0 := h_x0.2.2.1.1; have hf1 := h_x0.2.2.2.1; simp only [leB, decide_eq_true_eq, List.length_append, List.length_cons, List.length_nil]; omega)) (StE.bind (impl_outFault_ev (gt x0.fOuts (i3 : Int)) ((h_x0.2.2.2).2 _ (gt_mem (by first | omega | (have hq := len_eq (by assumption); omega) | (simp_all [idxOk, impl_TxFault_1_v]; omega) | (have hf0 := h_x0.2.2.1.1; have hf1 := h_x0.2.2.2.1; simp only [leB, decide_eq_true_eq, List.length_append, List.length_cons, List.length_nil]; omega))))) (StE.ifh (fun hc4 => (StE.ret _)) (fun hc4 => StE.next))))) (fun j hj => by
  simp only [impl_TxFault.l1_s]
  exact Evt.f (ge_lt hj) (Evt.self _))) (fun _ => rfl) (Evt.chk (by first | exact idx_ok (by omega) | exact idx_ok (by have hq := len_eq (by assumption); omega) | exact idx_found (by simp_all) | exact cut_ok (by omega) | exact or_ok (idx_ok (by omega)) | (refine or1 (fun hz => pre_ok (by simp at hz; omega) (by omega) (by omega))) | exact pre_ok (by omega) (by omega) (by omega) | (simp_all [idxOk, cutOk, leB]; done) | (simp_all [idxOk, cutOk, leB]; omega) | (simp [idxOk, cutOk, leB] at *; omega) | (simp_all [idxOk, impl_TxFault_1_v]; omega) | (have hf0 := h_x0.2.2.1.1; have hf1 := h_x0.2.2.2.1; simp only [leB, decide_eq_true_eq, List.length_append, List.length_cons, List.length_nil]; omega)) (Evt.ifh (fun hc5 => (Evt.self _)) (fun hc5 => (Evt.self _))))))))))))))))
def slices_Clone_impl_Member_v (x0 : List Member) : (List Member) := (([] : List Member) ++ x0)
theorem slices_Clone_impl_Member_ev (x0 : List Member) (h_x0 : (Lm smMember) x0) : Evt (fun k => slices_Clone_impl_Member.f k x0) (slices_Clone_impl_Member_v x0) :=
  (Evt.chk (by first | exact idx_ok (by omega) | exact idx_ok (by have hq := len_eq (by assumption); omega) | exact idx_found (by simp_all) | exact cut_ok (by omega) | exact or_ok (idx_ok (by omega)) | (refine or1 (fun hz => pre_ok (by simp at hz; omega) (by omega) (by omega))) | exact pre_ok (by omega) (by omega) (by omega) | (simp_all [idxOk, cutOk, leB]; done) | (simp_all [idxOk, cutOk, leB]; omega) | (simp [idxOk, cutOk, leB] at *; omega) | (have hf0 := h_x0.1; simp only [leB, decide_eq_true_eq, List.length_append, List.length_cons, List.length_nil]; omega)) (Evt.self _))
def cmp_isNaN_int64_v (x0 : Int) : Bool := (x0 != x0)
theorem cmp_isNaN_int64_ev (x0 : Int)  : Evt (fun k => cmp_isNaN_int64.f k x0) (cmp_isNaN_int64_v x0) :=
  (Evt.self _)
def cmp_Compare_int64_v (x0 : Int) (x1 : Int) : Int := (bif (cmp_isNaN_int64_v x0) then (bif (cmp_isNaN_int64_v x1) then 0 else (-1)) else (bif (cmp_isNaN_int64_v x1) then 1 else (bif (decide (x0 < x1)) then (-1) else (bif (decide (x1 < x0)) then 1 else 0))))
theorem cmp_Compare_int64_ev (x0 : Int) (x1 : Int)  : Evt (fun k => cmp_Compare_int64.f k x0 x1) (cmp_Compare_int64_v x0 x1) :=
  (Evt.bind (cmp_isNaN_int64_ev x0) (Evt.bind (cmp_isNaN_int64_ev x1) (Evt.ifh (fun hc4 => (Evt.ifh (fun hc0 => (Evt.self _)) (fun hc0 => (Evt.self _)))) (fun hc4 => (Evt.ifh (fun hc3 => (Evt.self _)) (fun hc3 => (Evt.ifh (fun hc2 => (Evt.self _)) (fun hc2 => (Evt.ifh (fun hc1 => (Evt.self _)) (fun hc1 => (Evt.self _)))))))))))
def impl_findMember_1_v (x0 : Member) (x1 : Int) : Int := (cmp_Compare_int64_v x0.fKey x1)
theorem impl_findMember_1_ev (x0 : Member) (x1 : Int)  : Evt (fun k => impl_findMember_1.f k x0 x1) (impl_findMember_1_v x0 x1) :=
  (Evt.bind (cmp_Compare_int64_ev x0.fKey x1) (Evt.self _))
def bsI (q : Nat → Bool) : Nat → Nat → Nat → Nat
  | 0, i, _ => i
  | m + 1, i, j => bif decide (i < j) then (bif q ((i + j) / 2) then bsI q m ((i + j) / 2 + 1) j else bsI q m i ((i + j) / 2)) else i
theorem mid_eq {i j : Nat} (h1 : i < j) (h2 : j ≤ 1048576) : wrap64 ((IntKind.u64.wrap (wrap64 ((i : Int) + (j : Int)))) / 2 ^ ((1 : Int)).toNat) = (((i + j) / 2 : Nat) : Int) := by
  have e1 : wrap64 ((i : Int) + (j : Int)) = (i : Int) + j := wrap64_in _ (by omega)
  have e2 : IntKind.u64.wrap ((i : Int) + j) = (i : Int) + j := u64_in _ (by omega)
  have e3 : (2 : Int) ^ ((1 : Int)).toNat = 2 := by decide
  rw [e1, e2, e3]
  have e4 : ((i : Int) + j) / 2 = (((i + j) / 2 : Nat) : Int) := by omega
  rw [e4]
  exact wrap64_in _ (by omega)
theorem Evt.bs {L : Nat → Int → Int → Option Int} (n : Nat) (q : Nat → Bool)
    (step : ∀ i j : Nat, i < j → j ≤ n → ∀ r, (q ((i + j) / 2) = true → Evt (fun k => L k (((i + j) / 2 + 1 : Nat) : Int) (j : Int)) r) → (q ((i + j) / 2) = false → Evt (fun k => L k (i : Int) (((i + j) / 2 : Nat) : Int)) r) → Evt (fun k => L (k + 1) (i : Int) (j : Int)) r)
    (done : ∀ i j : Nat, j ≤ i → Evt (fun k => L (k + 1) (i : Int) (j : Int)) (i : Int)) : Evt (fun k => L k 0 (n : Int)) ((bsI q n 0 n : Nat) : Int) := by
  have key : ∀ m i j : Nat, j ≤ i + m → j ≤ n → Evt (fun k => L k (i : Int) (j : Int)) ((bsI q m i j : Nat) : Int) := by
    intro m
    induction m with
    | zero => intro i j h _; exact Evt.s (done i j (by omega))
    | succ m ih =>
      intro i j h hj
      refine Evt.s ?_
      unfold bsI
      by_cases hlt : i < j
      · rw [decide_eq_true hlt]
        refine step i j hlt hj _ (fun hq => ?_) (fun hq => ?_)
        · rw [hq]; exact ih _ _ (by omega) hj
        · rw [hq]; exact ih _ _ (by omega) (by omega)
      · rw [decide_eq_false hlt]; exact done i j (by omega)
  exact key n 0 n (by omega) (Nat.le_refl _)
theorem bsI_spec (q : Nat → Bool) (n : Nat) (mono : ∀ a b, a ≤ b → b < n → q b = true → q a = true) :
    bsI q n 0 n ≤ n ∧ (∀ i, i < bsI q n 0 n → q i = true) ∧ (∀ i, bsI q n 0 n ≤ i → i < n → q i = false) := by
  have key : ∀ m i j : Nat, j ≤ i + m → i ≤ j → j ≤ n → (∀ a, a < i → q a = true) → (∀ a, j ≤ a → a < n → q a = false) →
      bsI q m i j ≤ n ∧ (∀ a, a < bsI q m i j → q a = true) ∧ (∀ a, bsI q m i j ≤ a → a < n → q a = false) := by
    intro m
    induction m with
    | zero =>
      intro i j h hij hj h1 h2
      have : i = j := by omega
      subst this
      exact ⟨hj, h1, h2⟩
    | succ m ih =>
      intro i j h hij hj h1 h2
      unfold bsI
      by_cases hlt : i < j
      · rw [decide_eq_true hlt]
        cases hq : q ((i + j) / 2)
        · exact ih _ _ (by omega) (by omega) (by omega) h1 fun a ha hn => by
            cases hqa : q a
            · rfl
            · rw [mono _ a ha hn hqa] at hq; cases hq
        · exact ih _ _ (by omega) (by omega) hj (fun a ha => mono a _ (by omega) (by omega) hq) h2
      · rw [decide_eq_false hlt]
        have : i = j := by omega
        subst this
        exact ⟨hj, h1, h2⟩
  exact key n 0 n (by omega) (by omega) (Nat.le_refl _) (fun a ha => by omega) (fun a ha hn => by omega)
def slices_BinarySearchFunc_impl_Member_v (x0 : List Member) (x1 : Int) : Int × Bool := (((bsI (fun i => decide (impl_findMember_1_v (gt x0 (i : Int)) x1 < 0)) x0.length 0 x0.length : Nat) : Int), (decide (((bsI (fun i => decide (impl_findMember_1_v (gt x0 (i : Int)) x1 < 0)) x0.length 0 x0.length : Nat) : Int) < (x0.length : Int)) && ((bif decide (((bsI (fun i => decide (impl_findMember_1_v (gt x0 (i : Int)) x1 < 0)) x0.length 0 x0.length : Nat) : Int) < (x0.length : Int)) then impl_findMember_1_v (gt x0 ((bsI (fun i => decide (impl_findMember_1_v (gt x0 (i : Int)) x1 < 0)) x0.length 0 x0.length : Nat) : Int)) x1 else default) == 0)))
theorem slices_BinarySearchFunc_impl_Member_ev (x0 : List Member) (x1 : Int) (h_x0 : ((Lm smMember)) x0) : Evt (fun k => slices_BinarySearchFunc_impl_Member.f k x0 x1) (slices_BinarySearchFunc_impl_Member_v x0 x1) := by
  have hn := h_x0.1
  refine Evt.bind (Evt.bs (L := fun k i j => slices_BinarySearchFunc_impl_Member.l0 x0 x1 k i j) x0.length (fun i => decide (impl_findMember_1_v (gt x0 (i : Int)) x1 < 0)) (fun i j h1 h2 r ht hf => ?_) (fun i j h => ?_)) ?_
  · simp only [slices_BinarySearchFunc_impl_Member.l0_s, mid_eq h1 (Nat.le_trans h2 hn)]
    refine Evt.t (by simp; omega) (Evt.chk rfl (Evt.chk (idx_ok (by omega)) (Evt.bind (impl_findMember_1_ev (gt x0 _) x1) (Evt.cases (fun hq => ?_) (fun hq => ?_)))))
    · rw [w64 (n := x0.length) (by omega) (by omega)]; exact ht hq
    · exact hf hq
  · simp only [slices_BinarySearchFunc_impl_Member.l0_s]
    exact Evt.f (by simp; omega) (Evt.self _)
  · refine Evt.chk (or1 fun hz => idx_ok (by simp at hz; omega)) (Evt.bind (Evt.ifh (fun hz => impl_findMember_1_ev (gt x0 _) x1) (fun _ => Evt.self _)) (Evt.self _))
def impl_findMember_v (x0 : List Member) (x1 : Int) : Int × Bool := ((slices_BinarySearchFunc_impl_Member_v x0 x1).1, (slices_BinarySearchFunc_impl_Member_v x0 x1).2)
theorem impl_findMember_ev (x0 : List Member) (x1 : Int) (h_x0 : (Lm smMember) x0) : Evt (fun k => impl_findMember.f k x0 x1) (impl_findMember_v x0 x1) :=
  (Evt.bind (slices_BinarySearchFunc_impl_Member_ev x0 x1 (h_x0)) (Evt.self _))
theorem findMember_in (x0 : List Member) (x1 : Int) (h : (!(impl_findMember_v x0 x1).2) = false) : idxOk (impl_findMember_v x0 x1).1 x0.length = true := by
  have h2 : (impl_findMember_v x0 x1).2 = true := notF h
  have h3 : (decide ((impl_findMember_v x0 x1).1 < (x0.length : Int))) = true := by
    have : (decide ((impl_findMember_v x0 x1).1 < (x0.length : Int)) && _) = true := h2
    exact (Bool.and_eq_true _ _ ▸ this).1
  unfold idxOk
  rw [Bool.and_eq_true]
  exact ⟨by show decide (0 ≤ ((_ : Nat) : Int)) = true; simp, h3⟩
def slices_Delete_impl_Member_v (x0 : List Member) (x1 : Int) (x2 : Int) : List Member := bif (x1 == x2) then x0 else x0.take (x1).toNat ++ x0.drop (x2).toNat
theorem slices_Delete_impl_Member_ev (x0 : List Member) (x1 : Int) (x2 : Int) (h1 : cutOk x2 x0.length = true) (h2 : cutOk x1 (x2).toNat = true) : Evt (fun k => slices_Delete_impl_Member.f k x0 x1 x2) (slices_Delete_impl_Member_v x0 x1 x2) := by
  have a1 := cut_lo h2
  have a2 := cut_hi h2
  have a3 := cut_hi h1
  have a4 := cut_lo h1
  refine Evt.chk h1 (Evt.chk h2 (Evt.ifh (fun _ => Evt.self _) (fun hne => Evt.chk ?_ (Evt.chk h1 (Evt.chk h2 (Evt.chk ?_ (Evt.chk ?_ (Evt.self _))))))))
  · unfold cutOk; simp; omega
  · have h5 : x1 ≠ x2 := by simpa using hne
    simp; omega
  · rw [List.length_append, List.length_take, List.length_drop]; simp; omega
def impl_takeMembers_1_v (x0 : Member) (x1 : Tx) : Bool := (slices_Contains_impl_Ref_v x1.fIns x0.fRef)
theorem impl_takeMembers_1_ev (x0 : Member) (x1 : Tx) (h_x1 : smTx x1) : Evt (fun k => impl_takeMembers_1.f k x0 x1) (impl_takeMembers_1_v x0 x1) :=
  (Evt.bind (slices_Contains_impl_Ref_ev x1.fIns x0.fRef (h_x1.2.2.1)) (Evt.self _))
def slices_IndexFunc_impl_Member_v2_v (x0 : List Member) (x1_0 : Tx) : Int := (onO ((List.range' 0 (x0.length - 0)).findSome? (fun (i0 : Nat) => (bif (impl_takeMembers_1_v (gt x0 (i0 : Int)) x1_0) then (some (i0 : Int)) else none))) (fun r => r) (-1))
theorem slices_IndexFunc_impl_Member_v2_ev (x0 : List Member) (x1_0 : Tx) (h_x0 : (Lm smMember) x0) (h_x1_0 : smTx x1_0) : Evt (fun k => slices_IndexFunc_impl_Member_v2.f k x0 x1_0) (slices_IndexFunc_impl_Member_v2_v x0 x1_0) :=
  (Evt.loop (r' := fun r => r) (Evt.srch (L := (fun k i => slices_IndexFunc_impl_Member_v2.l0 x0 x1_0 k i)) 0 x0.length (by have := h_x0; first | (have := this.1; omega) | omega) (fun (i0 : Nat) => (bif (impl_takeMembers_1_v (gt x0 (i0 : Int)) x1_0) then (some (i0 : Int)) else none)) (fun i0 hs2 hi2 => by
  have hbn : x0.length ≤ 9223372036854775807 := (by have := h_x0; first | (have := this.1; omega) | omega)
  simp only [slices_IndexFunc_impl_Member_v2.l0_s]
  exact Evt_t2 (int_lt hi2) (StE.chk (by first | exact idx_ok (by omega) | exact idx_ok (by have hq := len_eq (by assumption); omega) | exact idx_found (show (0 : Int) ≤ (i0 : Int) by simp_all) | exact cut_ok (by omega) | exact or_ok (idx_ok (by omega)) | (refine or1 (fun hz => pre_ok (by simp at hz; omega) (by omega) (by omega))) | exact pre_ok (by omega) (by omega) (by omega) | (simp_all [idxOk, cutOk, leB]; done) | (simp_all [idxOk, cutOk, leB]; omega) | (simp [idxOk, cutOk, leB] at *; omega) | (have hf0 := h_x0.1; have hf1 := h_x1_0.2.2.1.1; have hf2 := h_x1_0.2.2.2.1; simp only [leB, decide_eq_true_eq, List.length_append, List.length_cons, List.length_nil]; omega)) (StE.bind (impl_takeMembers_1_ev (gt x0 (i0 : Int)) x1_0 (h_x1_0)) (StE.ifh (fun hc1 => (StE.ret _)) (fun hc1 => StE.next))))) (fun j hj => by
  simp only [slices_IndexFunc_impl_Member_v2.l0_s]
  exact Evt.f (ge_lt hj) (Evt.self _))) (fun _ => rfl) (Evt.self _))
def mKeep (t : Tx) (m : Member) : Bool := !(impl_takeMembers_1_v m t)
def slices_DeleteFunc_impl_Member_v (x0 : List Member) (x1_0 : Tx) : List Member := x0.filter (mKeep x1_0)
theorem delFunc_loop (xs : List Member) (t : Tx) (h0 : xs.length ≤ 1048576) (h1 : smTx t) : ∀ (d j i : Nat) (s : List Member), j + d = xs.length → i ≤ j → s.length = xs.length → s.drop j = xs.drop j →
    ∃ (s' : List Member) (i' : Nat), Evt (fun k => slices_DeleteFunc_impl_Member.l0 t k s (i : Int) (j : Int)) (s', (i' : Int)) ∧ s'.length = xs.length ∧ i' ≤ xs.length ∧ s'.take i' = s.take i ++ (xs.drop j).filter (mKeep t)
  | 0, j, i, s, hd, hij, hs, hdr => by
    refine ⟨s, i, Evt.s ?_, hs, by omega, ?_⟩
    · simp only [slices_DeleteFunc_impl_Member.l0_s]
      exact Evt.f (decide_eq_false (by omega)) (Evt.self _)
    · rw [List.drop_of_length_le (by omega), List.filter_nil, List.append_nil]
  | d + 1, j, i, s, hd, hij, hs, hdr => by
    have hj : j < xs.length := by omega
    have hjs : j < s.length := by omega
    have e0 : xs.drop j = gt s (j : Int) :: xs.drop (j + 1) := by
      rw [← hdr, gt_eq (by simpa using hjs)]
      simp only [Int.toNat_natCast]
      rw [List.drop_eq_getElem_cons hjs]
      congr 1
      have := congrArg (List.drop 1) hdr
      rw [List.drop_drop, List.drop_drop] at this
      exact this
    have hdr1 : s.drop (j + 1) = xs.drop (j + 1) := by
      have := congrArg (List.drop 1) hdr
      rw [List.drop_drop, List.drop_drop] at this
      exact this
    have ew : wrap64 ((j : Int) + 1) = ((j + 1 : Nat) : Int) := by rw [wrap64_in _ (by omega)]; omega
    have ewi : wrap64 ((i : Int) + 1) = ((i + 1 : Nat) : Int) := by rw [wrap64_in _ (by omega)]; omega
    have ea := impl_takeMembers_1_ev (gt s (j : Int)) t h1
    cases hm : impl_takeMembers_1_v (gt s (j : Int)) t
    · have hk : mKeep t (gt s (j : Int)) = true := by unfold mKeep; rw [hm]; rfl
      obtain ⟨s', i', e, r1, r2, r3⟩ := delFunc_loop xs t h0 h1 d (j + 1) (i + 1) (s.set i (gt s (j : Int))) (by omega) (by omega) (by rw [List.length_set]; exact hs) (by rw [List.drop_set_of_lt (by omega)]; exact hdr1)
      refine ⟨s', i', Evt.s ?_, r1, r2, ?_⟩
      · simp only [slices_DeleteFunc_impl_Member.l0_s, ew, ewi, Int.toNat_natCast]
        rw [hm] at ea
        exact Evt.t (int_lt hjs) (Evt.chk (idx_ok hjs) (Evt.bind ea (Evt.t rfl (Evt.chk (idx_ok (by omega)) e))))
      · rw [r3, e0, List.filter_cons_of_pos hk, List.take_add_one, List.take_set_of_le (Nat.le_refl _), List.getElem?_set_self (by omega)]
        simp
    · have hk : ¬ mKeep t (gt s (j : Int)) = true := by unfold mKeep; rw [hm]; exact Bool.false_ne_true
      obtain ⟨s', i', e, r1, r2, r3⟩ := delFunc_loop xs t h0 h1 d (j + 1) i s (by omega) (by omega) hs hdr1
      refine ⟨s', i', Evt.s ?_, r1, r2, ?_⟩
      · simp only [slices_DeleteFunc_impl_Member.l0_s, ew]
        rw [hm] at ea
        exact Evt.t (int_lt hjs) (Evt.chk (idx_ok hjs) (Evt.bind ea (Evt.f rfl e)))
      · rw [r3, e0, List.filter_cons_of_neg hk]
theorem fs_at {n : Nat} {p : Nat → Bool} {i : Nat} (h : (List.range' 0 (n - 0)).findSome? (fun (i0 : Nat) => (bif p i0 then (some (i0 : Int)) else none)) = some (i : Int)) : i < n ∧ p i = true ∧ ∀ j, j < i → p j = false := by
  have key : ∀ (m a : Nat), (List.range' a m).findSome? (fun (i0 : Nat) => (bif p i0 then (some (i0 : Int)) else none)) = some (i : Int) → a ≤ i ∧ i < a + m ∧ p i = true ∧ ∀ j, a ≤ j → j < i → p j = false := by
    intro m
    induction m with
    | zero => intro a h; simp at h
    | succ m ih =>
      intro a h
      rw [List.range'_succ, List.findSome?_cons] at h
      cases hp : p a
      · rw [hp] at h
        obtain ⟨h1, h2, h3, h4⟩ := ih (a + 1) h
        refine ⟨by omega, by omega, h3, fun j hj hi => ?_⟩
        rcases Nat.lt_or_eq_of_le hj with h' | h'
        · exact h4 j (by omega) hi
        · subst h'; exact hp
      · rw [hp] at h
        have : (a : Int) = (i : Int) := Option.some.inj h
        obtain rfl : a = i := by omega
        exact ⟨Nat.le_refl _, by omega, hp, fun j h1 h2 => by omega⟩
  obtain ⟨_, h2, h3, h4⟩ := key (n - 0) 0 h
  exact ⟨by omega, h3, fun j hj => h4 j (by omega) hj⟩
theorem slices_DeleteFunc_impl_Member_ev (x0 : List Member) (x1_0 : Tx) (h_x0 : Lm smMember x0) (h_x1_0 : smTx x1_0) : Evt (fun k => slices_DeleteFunc_impl_Member.f k x0 x1_0) (slices_DeleteFunc_impl_Member_v x0 x1_0) := by
  have hl := h_x0.1
  refine Evt.bind (slices_IndexFunc_impl_Member_v2_ev x0 x1_0 h_x0 h_x1_0) ?_
  unfold slices_IndexFunc_impl_Member_v2_v slices_DeleteFunc_impl_Member_v
  cases hf : (List.range' 0 (x0.length - 0)).findSome? (fun (i0 : Nat) => (bif (impl_takeMembers_1_v (gt x0 (i0 : Int)) x1_0) then (some (i0 : Int)) else none)) with
  | none =>
    have e : x0.filter (mKeep x1_0) = x0 := by
      rw [List.filter_eq_self]
      intro m hm
      obtain ⟨i, hi, rfl⟩ := List.getElem_of_mem hm
      rw [List.findSome?_eq_none_iff] at hf
      have := hf i (by rw [List.mem_range'_1]; omega)
      rw [gt_eq (by simpa using hi)] at this
      simp only [Int.toNat_natCast] at this
      unfold mKeep
      cases hq : impl_takeMembers_1_v x0[i] x1_0
      · rfl
      · rw [hq] at this; cases this
    rw [e]
    exact Evt.t rfl (Evt.self _)
  | some z =>
    obtain ⟨i, hz, hi, hp, hq⟩ : ∃ i : Nat, z = (i : Int) ∧ i < x0.length ∧ impl_takeMembers_1_v (gt x0 (i : Int)) x1_0 = true ∧ ∀ j : Nat, j < i → impl_takeMembers_1_v (gt x0 (j : Int)) x1_0 = false := by
      obtain ⟨a, ha, hb⟩ := List.exists_of_findSome?_eq_some hf
      cases hc : impl_takeMembers_1_v (gt x0 (a : Int)) x1_0
      · rw [hc] at hb; cases hb
      · rw [hc] at hb
        obtain rfl : (a : Int) = z := Option.some.inj hb
        obtain ⟨h1, h2, h3⟩ := fs_at (p := fun i0 => impl_takeMembers_1_v (gt x0 (i0 : Int)) x1_0) hf
        exact ⟨a, rfl, h1, h2, h3⟩
    subst hz
    have ewi : wrap64 ((i : Int) + 1) = ((i + 1 : Nat) : Int) := by rw [wrap64_in _ (by omega)]; omega
    obtain ⟨s', i', e, r1, r2, r3⟩ := delFunc_loop x0 x1_0 hl h_x1_0 (x0.length - (i + 1)) (i + 1) i x0 (by omega) (by omega) rfl rfl
    have ef : x0.filter (mKeep x1_0) = s'.take i' := by
      rw [r3]
      have e1 : x0 = x0.take i ++ (gt x0 (i : Int) :: x0.drop (i + 1)) := by
        rw [gt_eq (by simpa using hi)]
        simp only [Int.toNat_natCast]
        rw [← List.drop_eq_getElem_cons hi, List.take_append_drop]
      have hk : ¬ mKeep x1_0 (gt x0 (i : Int)) = true := by unfold mKeep; rw [hp]; exact Bool.false_ne_true
      have e2 : (x0.take i).filter (mKeep x1_0) = x0.take i := by
        rw [List.filter_eq_self]
        intro m hm
        rw [List.mem_take_iff_getElem] at hm
        obtain ⟨j, hj, rfl⟩ := hm
        have := hq j (by omega)
        rw [gt_eq (by simp; omega)] at this
        simp only [Int.toNat_natCast] at this
        unfold mKeep
        rw [this]; rfl
      conv => lhs; rw [e1, List.filter_append, List.filter_cons_of_neg hk, e2]
    rw [ef]
    have hne : ((i : Int) == -1) = false := beq_false_of_ne (by omega)
    have e3 : onO (some (i : Int)) (fun r => r) (-1) = (i : Int) := rfl
    rw [e3, ewi]
    refine Evt.f hne ?_
    refine Evt.bind e ?_
    show Evt (fun k => chk (cutOk (i' : Int) s'.length) (some (s'.take ((i' : Int)).toNat))) _
    exact Evt.chk (cut_ok (by omega)) (by simp only [Int.toNat_natCast]; exact Evt.self _)
def impl_takeMembers_2_v (x0 : Member) (x1 : Ref) : Bool := ((x0.fRef.fTx == x1.fTx) && (x0.fRef.fAt == x1.fAt))
theorem impl_takeMembers_2_ev (x0 : Member) (x1 : Ref)  : Evt (fun k => impl_takeMembers_2.f k x0 x1) (impl_takeMembers_2_v x0 x1) :=
  (Evt.self _)
def slices_IndexFunc_impl_Member_v3_v (x0 : List Member) (x1_0 : Ref) : Int := (onO ((List.range' 0 (x0.length - 0)).findSome? (fun (i0 : Nat) => (bif (impl_takeMembers_2_v (gt x0 (i0 : Int)) x1_0) then (some (i0 : Int)) else none))) (fun r => r) (-1))
theorem slices_IndexFunc_impl_Member_v3_ev (x0 : List Member) (x1_0 : Ref) (h_x0 : (Lm smMember) x0) : Evt (fun k => slices_IndexFunc_impl_Member_v3.f k x0 x1_0) (slices_IndexFunc_impl_Member_v3_v x0 x1_0) :=
  (Evt.loop (r' := fun r => r) (Evt.srch (L := (fun k i => slices_IndexFunc_impl_Member_v3.l0 x0 x1_0 k i)) 0 x0.length (by have := h_x0; first | (have := this.1; omega) | omega) (fun (i0 : Nat) => (bif (impl_takeMembers_2_v (gt x0 (i0 : Int)) x1_0) then (some (i0 : Int)) else none)) (fun i0 hs2 hi2 => by
  have hbn : x0.length ≤ 9223372036854775807 := (by have := h_x0; first | (have := this.1; omega) | omega)
  simp only [slices_IndexFunc_impl_Member_v3.l0_s]
  exact Evt_t2 (int_lt hi2) (StE.chk (by first | exact idx_ok (by omega) | exact idx_ok (by have hq := len_eq (by assumption); omega) | exact idx_found (show (0 : Int) ≤ (i0 : Int) by simp_all) | exact cut_ok (by omega) | exact or_ok (idx_ok (by omega)) | (refine or1 (fun hz => pre_ok (by simp at hz; omega) (by omega) (by omega))) | exact pre_ok (by omega) (by omega) (by omega) | (simp_all [idxOk, cutOk, leB]; done) | (simp_all [idxOk, cutOk, leB]; omega) | (simp [idxOk, cutOk, leB] at *; omega) | (have hf0 := h_x0.1; simp only [leB, decide_eq_true_eq, List.length_append, List.length_cons, List.length_nil]; omega)) (StE.bind (impl_takeMembers_2_ev (gt x0 (i0 : Int)) x1_0) (StE.ifh (fun hc1 => (StE.ret _)) (fun hc1 => StE.next))))) (fun j hj => by
  simp only [slices_IndexFunc_impl_Member_v3.l0_s]
  exact Evt.f (ge_lt hj) (Evt.self _))) (fun _ => rfl) (Evt.self _))
def slices_ContainsFunc_impl_Member_v2_v (x0 : List Member) (x1_0 : Ref) : Bool := (decide (0 ≤ (slices_IndexFunc_impl_Member_v3_v x0 x1_0)))
theorem slices_ContainsFunc_impl_Member_v2_ev (x0 : List Member) (x1_0 : Ref) (h_x0 : (Lm smMember) x0) : Evt (fun k => slices_ContainsFunc_impl_Member_v2.f k x0 x1_0) (slices_ContainsFunc_impl_Member_v2_v x0 x1_0) :=
  (Evt.bind (slices_IndexFunc_impl_Member_v3_ev x0 x1_0 (h_x0)) (Evt.self _))
theorem slices_ContainsFunc_impl_Member_v2_any (x0 : List Member) (x1_0 : Ref) : slices_ContainsFunc_impl_Member_v2_v x0 x1_0 = (List.range' 0 (x0.length - 0)).any (fun (i0 : Nat) => (impl_takeMembers_2_v (gt x0 (i0 : Int)) x1_0)) := idx_any _ _
def slices_Insert_Member_v (x0 : List Member) (x1 : Int) (x2 : List Member) : List Member := x0.take x1.toNat ++ x2 ++ x0.drop x1.toNat
theorem slices_Insert_Member_ev (x0 : List Member) (x1 : Int) (x2 : List Member) (h0 : x0.length ≤ 1048576) (h2 : x2.length ≤ 1048576) (h1 : 1 ≤ x2.length) (hc : cutOk x1 x0.length = true) : Evt (fun k => slices_Insert_Member.f k x0 x1 x2) (slices_Insert_Member_v x0 x1 x2) := by
  refine Evt.chk ?_ (Evt.self _)
  rw [hc, Bool.true_and, Bool.and_eq_true]
  exact ⟨decide_eq_true h1, decide_eq_true (by omega)⟩
theorem bsI_le (q : Nat → Bool) : ∀ m i j : Nat, i ≤ j → bsI q m i j ≤ j
  | 0, i, j, h => h
  | m + 1, i, j, h => by
    unfold bsI
    by_cases hlt : i < j
    · rw [decide_eq_true hlt]
      cases q ((i + j) / 2)
      · exact Nat.le_trans (bsI_le q m i ((i + j) / 2) (by omega)) (by omega)
      · exact bsI_le q m ((i + j) / 2 + 1) j (by omega)
    · rw [decide_eq_false hlt]; exact h
theorem findMember_pos (xs : List Member) (key : Int) : ∃ p : Nat, (impl_findMember_v xs key).1 = (p : Int) ∧ p ≤ xs.length := ⟨_, rfl, bsI_le _ _ _ _ (by omega)⟩
theorem findMember_lt (xs : List Member) (key : Int) (h : (!(impl_findMember_v xs key).2) = false) : (impl_findMember_v xs key).1 < (xs.length : Int) := by
  have h2 : (impl_findMember_v xs key).2 = true := by
    cases hq : (impl_findMember_v xs key).2
    · rw [hq] at h; cases h
    · rfl
  have h3 : (decide ((impl_findMember_v xs key).1 < (xs.length : Int))) = true := by
    have : (decide ((impl_findMember_v xs key).1 < (xs.length : Int)) && _) = true := h2
    exact (Bool.and_eq_true _ _ ▸ this).1
  exact of_decide_eq_true h3
def tmBase (x0 : List Member) (x1 : Tx) : Option (List Member) := bif x1.fKind == 2 then (bif !(impl_findMember_v x0 x1.fMember).2 then none else some (slices_Delete_impl_Member_v x0 (impl_findMember_v x0 x1.fMember).1 (wrap64 ((impl_findMember_v x0 x1.fMember).1 + 1)))) else some x0
theorem tmBase_sub (x0 : List Member) (x1 : Tx) (b : List Member) (h0 : x0.length ≤ 1048576) (h : tmBase x0 x1 = some b) : b.Sublist x0 := by
  unfold tmBase at h
  cases hq : x1.fKind == 2 <;> rw [hq] at h
  · obtain rfl : x0 = b := Option.some.inj h
    exact List.Sublist.refl _
  · cases hf : !(impl_findMember_v x0 x1.fMember).2
    · rw [hf] at h
      obtain ⟨p, hp, hle⟩ := findMember_pos x0 x1.fMember
      have hlt := findMember_lt x0 x1.fMember hf
      rw [hp] at h hlt
      have ew : wrap64 ((p : Int) + 1) = ((p + 1 : Nat) : Int) := by rw [wrap64_in _ (by omega)]; omega
      rw [ew] at h
      obtain rfl := Option.some.inj h
      unfold slices_Delete_impl_Member_v
      rw [beq_false_of_ne (by omega)]
      simp only [Int.toNat_natCast, cond_false]
      have e := List.take_append_drop p x0
      conv => rhs; rw [← e]
      exact List.Sublist.append (.refl _) (by rw [← List.drop_drop]; exact List.drop_sublist _ _)
    · rw [hf] at h; cases h
def tmJoin (out : List Member) (m : Member) : List Member × Int :=
  bif (impl_findMember_v out m.fKey).2 || (bif !(impl_findMember_v out m.fKey).2 then slices_ContainsFunc_impl_Member_v2_v out m.fRef else default) then ([], 7) else bif ((out.length : Int) == 8) then ([], 2) else (out.take (impl_findMember_v out m.fKey).1.toNat ++ [m] ++ out.drop (impl_findMember_v out m.fKey).1.toNat, 0)
def impl_takeMembers_v (x0 : List Member) (x1 : Tx) (x2 : Int) : (List Member) × Int :=
  bif !(impl_isId_v x2) then ([], 3) else match tmBase x0 x1 with
    | none => ([], 4)
    | some b => bif x1.fKind != 1 then (slices_DeleteFunc_impl_Member_v b x1, 0) else tmJoin (slices_DeleteFunc_impl_Member_v b x1) ⟨x1.fMember, ⟨x2, 0⟩⟩
theorem impl_takeMembers_ev (x0 : List Member) (x1 : Tx) (x2 : Int) (h_x0 : Lm smMember x0) (h_x1 : smTx x1) : Evt (fun k => impl_takeMembers.f k x0 x1 x2) (impl_takeMembers_v x0 x1 x2) := by
  have hl := h_x0.1
  refine Evt.bind (impl_isId_ev x2) ?_
  unfold impl_takeMembers_v
  cases !(impl_isId_v x2)
  · refine Evt.f rfl (Evt.bind (slices_Clone_impl_Member_ev x0 h_x0) ?_)
    have ec : slices_Clone_impl_Member_v x0 = x0 := rfl
    rw [ec]
    have mid : Evt (fun k => (bif (x1.fKind == 2) then ((impl_findMember.f k x0 x1.fMember).bind fun t => (bif !t.2 then some (.inl (([] : List Member), (4 : Int))) else ((slices_Delete_impl_Member.f k x0 t.1 (wrap64 (t.1 + 1))).bind fun t2 => some (.inr t2)))) else some (.inr x0))) (match tmBase x0 x1 with
        | none => (.inl (([] : List Member), (4 : Int)) : (List Member × Int) ⊕ List Member)
        | some b => .inr b) := by
      unfold tmBase
      cases x1.fKind == 2
      · exact Evt.f rfl (Evt.self _)
      · refine Evt.t rfl (Evt.bind (impl_findMember_ev x0 x1.fMember h_x0) ?_)
        cases hf : !(impl_findMember_v x0 x1.fMember).2
        · obtain ⟨p, hp, hle⟩ := findMember_pos x0 x1.fMember
          have hlt := findMember_lt x0 x1.fMember hf
          have hi : idxOk (impl_findMember_v x0 x1.fMember).1 x0.length = true := by rw [hp] at hlt ⊢; exact idx_ok (by omega)
          exact Evt.f rfl (Evt.bind (slices_Delete_impl_Member_ev x0 _ _ (cut_next hi hl) (cut_self hi hl)) (Evt.self _))
        · exact Evt.t rfl (Evt.self _)
    refine Evt.bind mid ?_
    cases hb : tmBase x0 x1 with
    | none => exact Evt.self _
    | some b =>
      have hbs : Lm smMember b := Lm_sub h_x0 (tmBase_sub x0 x1 b hl hb)
      show Evt (fun k => (slices_DeleteFunc_impl_Member.f k b x1).bind _) (bif x1.fKind != 1 then (slices_DeleteFunc_impl_Member_v b x1, 0) else tmJoin (slices_DeleteFunc_impl_Member_v b x1) ⟨x1.fMember, ⟨x2, 0⟩⟩)
      refine Evt.bind (slices_DeleteFunc_impl_Member_ev b x1 hbs h_x1) ?_
      have hos : Lm smMember (slices_DeleteFunc_impl_Member_v b x1) := Lm_sub hbs List.filter_sublist
      generalize slices_DeleteFunc_impl_Member_v b x1 = out at hos
      cases x1.fKind != 1
      · refine Evt.f rfl (Evt.bind (impl_findMember_ev out x1.fMember hos) ?_)
        refine Evt.bind (Evt.ifh (fun _ => slices_ContainsFunc_impl_Member_v2_ev out ⟨x2, 0⟩ hos) (fun _ => Evt.self _)) ?_
        show Evt _ (tmJoin out ⟨x1.fMember, ⟨x2, 0⟩⟩)
        unfold tmJoin
        cases (impl_findMember_v out x1.fMember).2 || (bif !(impl_findMember_v out x1.fMember).2 then slices_ContainsFunc_impl_Member_v2_v out ⟨x2, 0⟩ else default)
        · refine Evt.f rfl ?_
          cases (out.length : Int) == 8
          · obtain ⟨p, hp, hle⟩ := findMember_pos out x1.fMember
            have ho := hos.1
            exact Evt.f rfl (Evt.bind (slices_Insert_Member_ev out _ _ ho (by simp) (by simp) (by rw [hp]; exact cut_ok hle)) (Evt.self _))
          · exact Evt.t rfl (Evt.self _)
        · exact Evt.t rfl (Evt.self _)
      · exact Evt.t rfl (Evt.self _)
  · exact Evt.t rfl (Evt.self _)
def impl_TakeMembers_v (x0 : List Member) (x1 : Tx) (x2 : Int) : MembersResult := (bif ((impl_MembersFault_v x0) != 0) then (⟨(impl_MembersFault_v x0), ([] : List Member)⟩ : MembersResult) else (bif ((impl_TxFault_v x1) != 0) then (⟨(impl_TxFault_v x1), ([] : List Member)⟩ : MembersResult) else (⟨(impl_takeMembers_v x0 x1 x2).2, (impl_takeMembers_v x0 x1 x2).1⟩ : MembersResult)))
theorem impl_TakeMembers_ev (x0 : List Member) (x1 : Tx) (x2 : Int) (h_x0 : (Lm smMember) x0) (h_x1 : smTx x1) : Evt (fun k => impl_TakeMembers.f k x0 x1 x2) (impl_TakeMembers_v x0 x1 x2) :=
  (Evt.bind (impl_MembersFault_ev x0 (h_x0)) (Evt.ifh (fun hc1 => (Evt.self _)) (fun hc1 => (Evt.bind (impl_TxFault_ev x1 (h_x1)) (Evt.ifh (fun hc0 => (Evt.self _)) (fun hc0 => (Evt.bind (impl_takeMembers_ev x0 x1 x2 (h_x0) (h_x1)) (Evt.self _))))))))
def impl_MemberOf_v (x0 : List Member) (x1 : Int) : MembersResult := (bif ((impl_MembersFault_v x0) != 0) then (⟨(impl_MembersFault_v x0), ([] : List Member)⟩ : MembersResult) else (bif !(impl_findMember_v x0 x1).2 then (⟨4, ([] : List Member)⟩ : MembersResult) else (⟨0, ([(gt x0 (impl_findMember_v x0 x1).1)] : List Member)⟩ : MembersResult)))
theorem impl_MemberOf_ev (x0 : List Member) (x1 : Int) (h_x0 : (Lm smMember) x0) : Evt (fun k => impl_MemberOf.f k x0 x1) (impl_MemberOf_v x0 x1) :=
  (Evt.bind (impl_MembersFault_ev x0 (h_x0)) (Evt.ifh (fun hc1 => (Evt.self _)) (fun hc1 => (Evt.bind (impl_findMember_ev x0 x1 (h_x0)) (Evt.ifh (fun hc0 => (Evt.self _)) (fun hc0 => (Evt.chk (by first | exact idx_ok (by omega) | exact idx_ok (by have hq := len_eq (by assumption); omega) | exact idx_found (show (0 : Int) ≤ (impl_findMember_v x0 x1).1 by simp_all) | exact cut_ok (by omega) | exact or_ok (idx_ok (by omega)) | (refine or1 (fun hz => pre_ok (by simp at hz; omega) (by omega) (by omega))) | exact pre_ok (by omega) (by omega) (by omega) | (simp_all [idxOk, cutOk, leB]; done) | (simp_all [idxOk, cutOk, leB]; omega) | (simp [idxOk, cutOk, leB] at *; omega) | exact findMember_in _ _ (by assumption) | (have hf0 := h_x0.1; simp only [leB, decide_eq_true_eq, List.length_append, List.length_cons, List.length_nil]; omega)) (Evt.self _))))))))
def impl_keysOf_v (x0 : List Member) : (List Int) := ((List.range' 0 (x0.length - 0)).foldl (fun ac1 (i0 : Nat) => ((ac1 ++ ([(gt x0 (i0 : Int)).fKey] : List Int)))) ([] : List Int))
theorem impl_keysOf_ev (x0 : List Member) (h_x0 : (Lm smMember) x0) : Evt (fun k => impl_keysOf.f k x0) (impl_keysOf_v x0) :=
  (Evt.bind (Evt.gatherL (L := (fun k ac i => impl_keysOf.l0 x0 k ac i)) x0.length (by have := h_x0; first | (have := this.1; omega) | omega) (fun ac1 (i0 : Nat) => ((ac1 ++ ([(gt x0 (i0 : Int)).fKey] : List Int)))) (fun i0 hi1 ac1 hgl => (by first | (simp only [List.length_append, List.length_cons, List.length_nil]; omega) | omega)) (fun i0 hi1 ac1 hgl o hg => by
  have hbn : x0.length ≤ 1048576 := (by have := h_x0; first | (have := this.1; omega) | omega)
  simp only [impl_keysOf.l0_s]
  exact Evt.t (int_lt hi1) (Evt.chk (by first | (simp only [leB, decide_eq_true_eq, List.length_append, List.length_cons, List.length_nil]; omega) | exact idx_ok (by omega) | exact idx_ok (by have hq := len_eq (by assumption); omega) | exact idx_found (by simp_all) | exact cut_ok (by omega) | exact or_ok (idx_ok (by omega)) | (refine or1 (fun hz => pre_ok (by simp at hz; omega) (by omega) (by omega))) | exact pre_ok (by omega) (by omega) (by omega) | (simp_all [idxOk, cutOk, leB]; done) | (simp_all [idxOk, cutOk, leB]; omega) | (simp [idxOk, cutOk, leB] at *; omega) | (have hf0 := h_x0.1; simp only [leB, decide_eq_true_eq, List.length_append, List.length_cons, List.length_nil]; omega)) (Evt.chk (by first | (simp only [leB, decide_eq_true_eq, List.length_append, List.length_cons, List.length_nil]; omega) | exact idx_ok (by omega) | exact idx_ok (by have hq := len_eq (by assumption); omega) | exact idx_found (by simp_all) | exact cut_ok (by omega) | exact or_ok (idx_ok (by omega)) | (refine or1 (fun hz => pre_ok (by simp at hz; omega) (by omega) (by omega))) | exact pre_ok (by omega) (by omega) (by omega) | (simp_all [idxOk, cutOk, leB]; done) | (simp_all [idxOk, cutOk, leB]; omega) | (simp [idxOk, cutOk, leB] at *; omega) | (have hf0 := h_x0.1; simp only [leB, decide_eq_true_eq, List.length_append, List.length_cons, List.length_nil]; omega)) hg))) (fun j ac hj => by
  simp only [impl_keysOf.l0_s]
  exact Evt.f (ge_lt hj) (Evt.self _))) (Evt.self _))
def impl_KeysOf_v (x0 : List Member) : IntsResult := (bif ((impl_MembersFault_v x0) != 0) then (⟨(impl_MembersFault_v x0), ([] : List Int)⟩ : IntsResult) else (⟨0, (impl_keysOf_v x0)⟩ : IntsResult))
theorem impl_KeysOf_ev (x0 : List Member) (h_x0 : (Lm smMember) x0) : Evt (fun k => impl_KeysOf.f k x0) (impl_KeysOf_v x0) :=
  (Evt.bind (impl_MembersFault_ev x0 (h_x0)) (Evt.ifh (fun hc0 => (Evt.self _)) (fun hc0 => (Evt.bind (impl_keysOf_ev x0 (h_x0)) (Evt.self _)))))
def slices_Equal_impl_Member_v (x0 : List Member) (x1 : List Member) : Bool := (bif ((x0.length : Int) != (x1.length : Int)) then false else (onO ((List.range' 0 (x0.length - 0)).findSome? (fun (i0 : Nat) => (bif (!((((gt x0 (i0 : Int)).fKey) == ((gt x1 (i0 : Int)).fKey)) && ((((gt x0 (i0 : Int)).fRef.fTx) == ((gt x1 (i0 : Int)).fRef.fTx)) && (((gt x0 (i0 : Int)).fRef.fAt) == ((gt x1 (i0 : Int)).fRef.fAt))))) then (some false) else none))) (fun r => r) true))
theorem slices_Equal_impl_Member_ev (x0 : List Member) (x1 : List Member) (h_x0 : (Lm smMember) x0) (h_x1 : (Lm smMember) x1) : Evt (fun k => slices_Equal_impl_Member.f k x0 x1) (slices_Equal_impl_Member_v x0 x1) :=
  (Evt.ifh (fun hc2 => (Evt.self _)) (fun hc2 => (Evt.loop (r' := fun r => r) (Evt.srch (L := (fun k i => slices_Equal_impl_Member.l0 x0 x1 k i)) 0 x0.length (by have := h_x0; first | (have := this.1; omega) | omega) (fun (i0 : Nat) => (bif (!((((gt x0 (i0 : Int)).fKey) == ((gt x1 (i0 : Int)).fKey)) && ((((gt x0 (i0 : Int)).fRef.fTx) == ((gt x1 (i0 : Int)).fRef.fTx)) && (((gt x0 (i0 : Int)).fRef.fAt) == ((gt x1 (i0 : Int)).fRef.fAt))))) then (some false) else none)) (fun i0 hs2 hi2 => by
  have hbn : x0.length ≤ 9223372036854775807 := (by have := h_x0; first | (have := this.1; omega) | omega)
  simp only [slices_Equal_impl_Member.l0_s]
  exact Evt_t2 (int_lt hi2) (StE.chk (by first | exact idx_ok (by omega) | exact idx_ok (by have hq := len_eq (by assumption); omega) | exact idx_found (show (0 : Int) ≤ (i0 : Int) by simp_all) | exact cut_ok (by omega) | exact or_ok (idx_ok (by omega)) | (refine or1 (fun hz => pre_ok (by simp at hz; omega) (by omega) (by omega))) | exact pre_ok (by omega) (by omega) (by omega) | (simp_all [idxOk, cutOk, leB]; done) | (simp_all [idxOk, cutOk, leB]; omega) | (simp [idxOk, cutOk, leB] at *; omega) | (have hf0 := h_x0.1; have hf1 := h_x1.1; simp only [leB, decide_eq_true_eq, List.length_append, List.length_cons, List.length_nil]; omega)) (StE.chk (by first | exact idx_ok (by omega) | exact idx_ok (by have hq := len_eq (by assumption); omega) | exact idx_found (show (0 : Int) ≤ (i0 : Int) by simp_all) | exact cut_ok (by omega) | exact or_ok (idx_ok (by omega)) | (refine or1 (fun hz => pre_ok (by simp at hz; omega) (by omega) (by omega))) | exact pre_ok (by omega) (by omega) (by omega) | (simp_all [idxOk, cutOk, leB]; done) | (simp_all [idxOk, cutOk, leB]; omega) | (simp [idxOk, cutOk, leB] at *; omega) | (have hf0 := h_x0.1; have hf1 := h_x1.1; simp only [leB, decide_eq_true_eq, List.length_append, List.length_cons, List.length_nil]; omega)) (StE.ifh (fun hc1 => (StE.ret _)) (fun hc1 => StE.next))))) (fun j hj => by
  simp only [slices_Equal_impl_Member.l0_s]
  exact Evt.f (ge_lt hj) (Evt.self _))) (fun _ => rfl) (Evt.self _))))
def impl_SameMembers_v (x0 : List Member) (x1 : List Member) : Bool := (slices_Equal_impl_Member_v x0 x1)
theorem impl_SameMembers_ev (x0 : List Member) (x1 : List Member) (h_x0 : (Lm smMember) x0) (h_x1 : (Lm smMember) x1) : Evt (fun k => impl_SameMembers.f k x0 x1) (impl_SameMembers_v x0 x1) :=
  (Evt.bind (slices_Equal_impl_Member_ev x0 x1 (h_x0) (h_x1)) (Evt.self _))
theorem refs_same (r : Ref) : impl_isRef_v r = spec_l3Ref_v r := by simp only [impl_isRef_v, spec_l3Ref_v, impl_isId_v, impl_within_v, spec_l1In_v]
theorem contains_ref (xs : List Ref) (x : Ref) : slices_Contains_impl_Ref_v xs x = spec_l3Among_v xs x := by
  have e : (fun i : Nat => (x.fTx == (gt xs (i : Int)).fTx) && (x.fAt == (gt xs (i : Int)).fAt)) = fun i : Nat => ((gt xs (i : Int)).fTx == x.fTx) && ((gt xs (i : Int)).fAt == x.fAt) := by funext i; rw [BEq.comm (a := x.fTx), BEq.comm (a := x.fAt)]
  rw [slices_Contains_impl_Ref_any, e]; simp only [spec_l3Among_v, found_any, bifb]
theorem among_iff (xs : List Ref) (x : Ref) : spec_l3Among_v xs x = true ↔ x ∈ xs := by
  unfold spec_l3Among_v
  rw [found_any]
  constructor
  · intro h
    rw [bifb, List.any_eq_true] at h
    obtain ⟨i, hi, hp⟩ := h
    have hlt : i < xs.length := by rw [List.mem_range'_1] at hi; omega
    rw [Bool.and_eq_true, beq_iff_eq, beq_iff_eq] at hp
    have : gt xs (i : Int) = x := by
      cases hq : gt xs (i : Int); cases x
      rw [hq] at hp
      simp only at hp
      rw [hp.1, hp.2]
    rw [← this]; exact gt_mem hlt
  · intro h
    obtain ⟨i, hi, rfl⟩ := List.getElem_of_mem h
    rw [bifb, List.any_eq_true]
    refine ⟨i, by rw [List.mem_range'_1]; omega, ?_⟩
    rw [gt_eq (by simpa using hi)]
    simp
theorem membersFault_same (x0 : List Member) : impl_MembersFault_v x0 = spec_l6Fault_v x0 := by
  have e2 : (List.range' 0 (x0.length - 0)).findSome? (fun (i3 : Nat) => (bif (slices_ContainsFunc_impl_Member_v (x0.take ((i3 : Int)).toNat) (gt x0 (i3 : Int))) then (some (7 : Int)) else none)) =
      (List.range' 0 (x0.length - 0)).findSome? (fun (i3 : Nat) => (onO ((List.range' 0 (i3 - 0)).findSome? (fun (i4 : Nat) => (bif ((((gt x0 (i4 : Int)).fRef.fTx) == ((gt x0 (i3 : Int)).fRef.fTx)) && (((gt x0 (i4 : Int)).fRef.fAt) == ((gt x0 (i3 : Int)).fRef.fAt))) then (some (7 : Int)) else none))) (fun r => (some r)) none)) := by
    refine fs_congr fun i hi => ?_
    have hl : i ≤ x0.length := Nat.le_of_lt (in_range hi)
    have hn : ((i : Int)).toNat = i := by simp
    rw [found_any, hn]
    rw [slices_ContainsFunc_impl_Member_any]
    simp only [impl_MembersFault_1_v]
    rw [any_take hl (fun y => (y.fRef.fTx == (gt x0 (i : Int)).fRef.fTx) && (y.fRef.fAt == (gt x0 (i : Int)).fRef.fAt))]
  simp only [impl_MembersFault_v, spec_l6Fault_v, e2, refs_same, impl_isKey_v, spec_l1Key_v, impl_within_v, spec_l1In_v]
theorem txFault_same (x0 : Tx) : impl_TxFault_v x0 = spec_l3Fault_v x0 := by
  have e1 : ∀ n : Int, impl_TxFault_1_v n = !(spec_l1In_v n 1 4) := fun n => rng1
  have e2 : ∀ x : Out, (bif ((impl_outFault_v x) != 0) then (some (impl_outFault_v x)) else none) = (bif !(spec_l1In_v x.fValue 1 1000000) then (some 3) else (bif ((spec_l2Fault_v x.fRule) != 0) then (some (spec_l2Fault_v x.fRule)) else none)) := by
    intro x
    have e : impl_outFault_v x = bif !(spec_l1In_v x.fValue 1 1000000) then 3 else spec_l2Fault_v x.fRule := by simp only [impl_outFault_v, ruleFault_same, impl_within_v, spec_l1In_v]
    rw [e]
    cases spec_l1In_v x.fValue 1 1000000 <;> rfl
  have e3 : ∀ n a b : Int, impl_within_v n a b = spec_l1In_v n a b := fun _ _ _ => rfl
  have e4 : ∀ n : Int, impl_isKey_v n = spec_l1Key_v n := fun _ => rfl
  simp only [impl_TxFault_v, spec_l3Fault_v, spec_l3Outs_v, e1, e2, e3, e4, refs_same, contains_ref]
  simp only [bne]
  generalize spec_l1In_v (x0.fIns.length : Int) 1 4 = a
  generalize spec_l1In_v (x0.fOuts.length : Int) 1 4 = b
  generalize spec_l1In_v x0.fKind 0 2 = c
  generalize spec_l1Key_v x0.fMember = d
  generalize (x0.fKind == 0) = e
  generalize (x0.fMember == 0) = f
  cases a <;> cases b <;> cases c <;> cases d <;> cases e <;> cases f <;> rfl
theorem compare_eq (a b : Int) : cmp_Compare_int64_v a b = bif decide (a < b) then -1 else bif decide (b < a) then 1 else 0 := by
  have e : ∀ x, cmp_isNaN_int64_v x = false := fun x => by simp [cmp_isNaN_int64_v]
  simp only [cmp_Compare_int64_v, e]; rfl
theorem rising (f : Nat → Int) (n : Nat) (h : ∀ i, i + 1 < n → f i < f (i + 1)) : ∀ d a, a + d + 1 < n → f a < f (a + d + 1)
  | 0, a, hb => h a hb
  | d + 1, a, hb => by
    have h1 := rising f n h d a (by omega)
    have h2 := h (a + d + 1) hb
    have e : a + (d + 1) + 1 = a + d + 1 + 1 := by omega
    rw [e]; omega
theorem compare_lt (a b : Int) : cmp_Compare_int64_v a b < 0 ↔ a < b := by
  rw [compare_eq]
  by_cases h : a < b
  · simp [h]
  · by_cases h2 : b < a <;> simp [h, h2]
theorem compare_zero (a b : Int) : cmp_Compare_int64_v a b = 0 ↔ a = b := by
  rw [compare_eq]
  by_cases h : a < b
  · simp [h]; omega
  · by_cases h2 : b < a
    · simp [h, h2]; omega
    · simp [h, h2]; omega
theorem two_ne (a b : Bool) : (bif a then some (3 : Int) else bif b then some 1 else none) ≠ some 0 := by cases a <;> cases b <;> decide
theorem two_none {a b : Bool} (h : (bif a then some (3 : Int) else bif b then some 1 else none) = none) : b = false := by cases a <;> cases b <;> first | rfl | cases h
theorem members_step (x0 : List Member) (hl : x0.length ≤ 1048576) (h : spec_l6Fault_v x0 = 0) : ∀ i, i + 1 < x0.length → (gt x0 (i : Int)).fKey < (gt x0 ((i + 1 : Nat) : Int)).fKey := by
  intro i hi
  unfold spec_l6Fault_v at h
  cases hc : decide (8 < (x0.length : Int))
  · rw [hc] at h
    obtain ⟨h1, _⟩ := onO_zero h (fun i => two_ne _ _)
    have h2 := two_none (fs_all h1 (i + 1) hi)
    have e : wrap64 (((i + 1 : Nat) : Int) - 1) = (i : Int) := by have := wrap64_in (((i + 1 : Nat) : Int) - 1) (by omega); rw [this]; omega
    rw [e] at h2
    simp only [Bool.and_eq_false_iff, decide_eq_false_iff_not] at h2
    omega
  · rw [hc] at h; exact absurd (show (2 : Int) = 0 from h) (by decide)
theorem members_lt (x0 : List Member) (hl : x0.length ≤ 1048576) (h : spec_l6Fault_v x0 = 0) (a b : Nat) (hab : a < b) (hb : b < x0.length) : (gt x0 (a : Int)).fKey < (gt x0 (b : Int)).fKey := by
  have := rising (fun i => (gt x0 (i : Int)).fKey) x0.length (members_step x0 hl h) (b - a - 1) a (by omega)
  have e : a + (b - a - 1) + 1 = b := by omega
  rw [e] at this
  exact this
def MRise (xs : List Member) : Prop := xs.Pairwise (fun a b => a.fKey < b.fKey)
theorem MRise.of {xs : List Member} (hl : xs.length ≤ 1048576) (h : spec_l6Fault_v xs = 0) : MRise xs := by
  unfold MRise
  rw [List.pairwise_iff_getElem]
  intro i j hi hj hij
  have := members_lt xs hl h i j hij hj
  rw [gt_eq (by simpa using hi), gt_eq (by simpa using hj)] at this
  simpa using this
theorem members_len {xs : List Member} (h : spec_l6Fault_v xs = 0) : xs.length ≤ 8 := by
  unfold spec_l6Fault_v at h
  cases hc : decide (8 < (xs.length : Int))
  · have := of_decide_eq_false hc; omega
  · rw [hc] at h; exact absurd (show (2 : Int) = 0 from h) (by decide)
theorem l6At_any (xs : List Member) (key : Int) : decide (0 ≤ spec_l6At_v xs key) = xs.any (fun m => m.fKey == key) := by
  unfold spec_l6At_v
  rw [idx_any]
  rw [Bool.eq_iff_iff, List.any_eq_true, List.any_eq_true]
  constructor
  · rintro ⟨i, hi, hp⟩
    have hlt : i < xs.length := by rw [List.mem_range'_1] at hi; omega
    exact ⟨_, gt_mem hlt, hp⟩
  · rintro ⟨m, hm, hp⟩
    obtain ⟨i, hi, rfl⟩ := List.getElem_of_mem hm
    refine ⟨i, by rw [List.mem_range'_1]; omega, ?_⟩
    rw [gt_eq (by simpa using hi)]
    simpa using hp
theorem find_rise (xs : List Member) (hr : MRise xs) (key : Int) : ∃ p : Nat, (impl_findMember_v xs key).1 = (p : Int) ∧ p ≤ xs.length ∧ (∀ m ∈ xs.take p, m.fKey < key) ∧ (∀ m ∈ xs.drop p, key ≤ m.fKey) ∧ (impl_findMember_v xs key).2 = xs.any (fun m => m.fKey == key) := by
  have hc0 : ∀ i : Nat, impl_findMember_1_v (gt xs (i : Int)) key = 0 ↔ (gt xs (i : Int)).fKey = key := fun i => compare_zero _ _
  have hcl : ∀ i : Nat, impl_findMember_1_v (gt xs (i : Int)) key < 0 ↔ (gt xs (i : Int)).fKey < key := fun i => compare_lt _ _
  have hg : ∀ a b : Nat, a < b → b < xs.length → (gt xs (a : Int)).fKey < (gt xs (b : Int)).fKey := fun a b hab hb => by
    have := List.pairwise_iff_getElem.1 hr a b (by omega) hb hab
    rw [gt_eq (by simp; omega), gt_eq (by simpa using hb)]
    simpa using this
  obtain ⟨h1, h2, h3⟩ := bsI_spec (fun i => decide (impl_findMember_1_v (gt xs (i : Int)) key < 0)) xs.length (fun a b hab hb hq => by
    have hq' := (hcl b).1 (of_decide_eq_true hq)
    refine decide_eq_true ((hcl a).2 ?_)
    rcases Nat.lt_or_eq_of_le hab with h | h
    · have := hg a b h hb; omega
    · subst h; exact hq')
  refine ⟨_, rfl, h1, fun m hm => ?_, fun m hm => ?_, ?_⟩
  · rw [List.mem_take_iff_getElem] at hm
    obtain ⟨i, hi, rfl⟩ := hm
    have := (hcl i).1 (of_decide_eq_true (h2 i (by omega)))
    rw [gt_eq (by simp; omega)] at this
    simpa using this
  · rw [List.mem_drop_iff_getElem] at hm
    obtain ⟨i, hi, rfl⟩ := hm
    have h4 := of_decide_eq_false (h3 _ (Nat.le_add_right _ i) (by omega))
    rw [hcl] at h4
    rw [gt_eq (by simp; omega)] at h4
    simp only [Int.toNat_natCast] at h4
    omega
  · generalize hp : bsI (fun i => decide (impl_findMember_1_v (gt xs (i : Int)) key < 0)) xs.length 0 xs.length = p at h1 h2 h3
    have e : (impl_findMember_v xs key).2 = (decide ((p : Int) < (xs.length : Int)) && ((bif decide ((p : Int) < (xs.length : Int)) then impl_findMember_1_v (gt xs (p : Int)) key else default) == 0)) := by subst hp; rfl
    rw [e, Bool.eq_iff_iff, Bool.and_eq_true, decide_eq_true_eq, List.any_eq_true]
    constructor
    · rintro ⟨hlt, hz⟩
      rw [decide_eq_true hlt, cond_true, beq_iff_eq, hc0] at hz
      exact ⟨_, gt_mem (show p < xs.length by omega), by simpa using hz⟩
    · rintro ⟨m, hm, hk⟩
      obtain ⟨i, hi, rfl⟩ := List.getElem_of_mem hm
      have hk' : (gt xs (i : Int)).fKey = key := by rw [gt_eq (by simpa using hi)]; simpa using hk
      have hpi : p ≤ i := by
        rcases Nat.lt_or_ge i p with h | h
        · have := (hcl i).1 (of_decide_eq_true (h2 i h)); omega
        · exact h
      have hip : p = i := by
        rcases Nat.lt_or_eq_of_le hpi with h | h
        · have h5 := hg p i h hi
          have h6 := of_decide_eq_false (h3 p (Nat.le_refl _) (by omega))
          rw [hcl] at h6; omega
        · exact h
      subst hip
      have hlt : (p : Int) < (xs.length : Int) := by omega
      refine ⟨hlt, ?_⟩
      rw [decide_eq_true hlt, cond_true, beq_iff_eq, hc0]; exact hk'
theorem jl_app (key : Int) : ∀ (A B : List Member) (i a : Nat), jl key (A ++ B) i a = jl key B (i + A.length) (jl key A i a)
  | [], B, i, a => rfl
  | m :: A, B, i, a => by
    show jl key (A ++ B) (i + 1) _ = jl key B (i + (A.length + 1)) (jl key A (i + 1) _)
    rw [jl_app key A B, show i + 1 + A.length = i + (A.length + 1) by omega]
theorem jl_less (key : Int) : ∀ (A : List Member) (i : Nat), (∀ m ∈ A, m.fKey < key) → jl key A i i = i + A.length
  | [], i, _ => rfl
  | m :: A, i, h => by
    show jl key A (i + 1) (bif decide (m.fKey < key) then i + 1 else i) = _
    rw [decide_eq_true (h m (by simp)), cond_true, jl_less key A (i + 1) (fun x hx => h x (by simp [hx]))]
    simp only [List.length_cons]; omega
theorem jl_more (key : Int) : ∀ (B : List Member) (i a : Nat), (∀ m ∈ B, key ≤ m.fKey) → jl key B i a = a
  | [], i, a, _ => rfl
  | m :: B, i, a, h => by
    show jl key B (i + 1) (bif decide (m.fKey < key) then i + 1 else a) = _
    have : ¬ m.fKey < key := by have := h m (by simp); omega
    rw [decide_eq_false this, cond_false, jl_more key B (i + 1) a (fun x hx => h x (by simp [hx]))]
theorem jl_at {xs : List Member} {key : Int} {p : Nat} (hp : p ≤ xs.length) (h1 : ∀ m ∈ xs.take p, m.fKey < key) (h2 : ∀ m ∈ xs.drop p, key ≤ m.fKey) : jl key xs 0 0 = p := by
  have e := List.take_append_drop p xs
  have : jl key (xs.take p ++ xs.drop p) 0 0 = p := by
    rw [jl_app, jl_less key _ 0 h1, jl_more key _ _ _ h2, List.length_take]; omega
  rw [e] at this; exact this
theorem del_key {xs : List Member} (hr : MRise xs) (hl : xs.length ≤ 1048576) (key : Int) (h : (impl_findMember_v xs key).2 = true) :
    slices_Delete_impl_Member_v xs (impl_findMember_v xs key).1 (wrap64 ((impl_findMember_v xs key).1 + 1)) = xs.filter (fun m => !(m.fKey == key)) := by
  obtain ⟨p, hp, hle, h1, h2, h3⟩ := find_rise xs hr key
  rw [h3, List.any_eq_true] at h
  obtain ⟨m, hm, hk⟩ := h
  have hk' : m.fKey = key := by simpa using hk
  have hmd : m ∈ xs.drop p := by
    rw [← List.take_append_drop p xs] at hm
    rcases List.mem_append.1 hm with h | h
    · have := h1 m h; omega
    · exact h
  have hlt : p < xs.length := by
    rcases Nat.lt_or_ge p xs.length with h | h
    · exact h
    · rw [List.drop_of_length_le h] at hmd; cases hmd
  have ed : xs.drop p = xs[p] :: xs.drop (p + 1) := List.drop_eq_getElem_cons hlt
  have hrd : (xs[p] :: xs.drop (p + 1)).Pairwise (fun a b => a.fKey < b.fKey) := ed ▸ List.Pairwise.sublist (List.drop_sublist p xs) hr
  have hpk : xs[p].fKey = key := by
    have h4 := h2 xs[p] (by rw [ed]; exact List.mem_cons_self)
    rw [ed] at hmd
    rcases List.mem_cons.1 hmd with h | h
    · rw [← h]; exact hk'
    · have := (List.pairwise_cons.1 hrd).1 m h; omega
  have ew : wrap64 ((p : Int) + 1) = ((p + 1 : Nat) : Int) := by rw [wrap64_in _ (by omega)]; omega
  rw [hp, ew]
  unfold slices_Delete_impl_Member_v
  rw [beq_false_of_ne (by omega)]
  simp only [Int.toNat_natCast, cond_false]
  have e := List.take_append_drop p xs
  conv => rhs; rw [← e, ed, List.filter_append, List.filter_cons_of_neg (by simp [hpk])]
  have e1 : (xs.take p).filter (fun m => !(m.fKey == key)) = xs.take p := by
    rw [List.filter_eq_self]
    intro x hx
    have := h1 x hx
    simp; omega
  have e2 : (xs.drop (p + 1)).filter (fun m => !(m.fKey == key)) = xs.drop (p + 1) := by
    rw [List.filter_eq_self]
    intro x hx
    have := (List.pairwise_cons.1 hrd).1 x hx
    simp; omega
  rw [e1, e2]
theorem join_same {out : List Member} (m : Member) (hr : MRise out) (h8 : out.length ≤ 8) : tmJoin out m = spec_l6Join_v out m := by
  obtain ⟨p, hp, hle, h1, h2, h3⟩ := find_rise out hr m.fKey
  unfold tmJoin spec_l6Join_v
  rw [l6At_any, ← h3, slices_ContainsFunc_impl_Member_v2_any]
  have ea : (List.range' 0 (out.length - 0)).any (fun (i0 : Nat) => (impl_takeMembers_2_v (gt out (i0 : Int)) m.fRef)) = out.any (fun x => (x.fRef.fTx == m.fRef.fTx) && (x.fRef.fAt == m.fRef.fAt)) := by
    rw [Bool.eq_iff_iff, List.any_eq_true, List.any_eq_true]
    constructor
    · rintro ⟨i, hi, hq⟩
      have hlt : i < out.length := by rw [List.mem_range'_1] at hi; omega
      exact ⟨_, gt_mem hlt, hq⟩
    · rintro ⟨x, hx, hq⟩
      obtain ⟨i, hi, rfl⟩ := List.getElem_of_mem hx
      refine ⟨i, by rw [List.mem_range'_1]; omega, ?_⟩
      rw [gt_eq (by simpa using hi)]
      exact hq
  rw [ea]
  cases (impl_findMember_v out m.fKey).2
  · simp only [Bool.not_false, cond_true, Bool.false_or, cond_false]
    cases out.any (fun x => (x.fRef.fTx == m.fRef.fTx) && (x.fRef.fAt == m.fRef.fAt))
    · have e8 : ((out.length : Int) == 8) = decide (8 ≤ (out.length : Int)) := by
        rw [Bool.eq_iff_iff, beq_iff_eq, decide_eq_true_eq]; omega
      rw [e8, hp, jl_at hle h1 h2]
      simp only [Int.toNat_natCast]
    · simp only [cond_true]
  · simp only [Bool.true_or, cond_true]
theorem take_same (x0 : List Member) (x1 : Tx) (x2 : Int) (hl : x0.length ≤ 1048576) (h : spec_l6Fault_v x0 = 0) (hid : impl_isId_v x2 = true) : impl_takeMembers_v x0 x1 x2 = spec_l6Take_v x0 x1 x2 := by
  have hr := MRise.of hl h
  have h8 := members_len h
  have hk1 : ∀ b : List Member, slices_DeleteFunc_impl_Member_v b x1 = b.filter (fun m => !(spec_l3Among_v x1.fIns m.fRef)) := fun b => by
    unfold slices_DeleteFunc_impl_Member_v
    congr 1
    funext m
    unfold mKeep impl_takeMembers_1_v
    rw [contains_ref]
  have fin : ∀ b : List Member, tmBase x0 x1 = some b → b.filter (fun m => !(spec_l3Among_v x1.fIns m.fRef)) = x0.filter (l6Keep x1) → ((x1.fKind == 2) && decide ((bif x1.fKind == 2 then spec_l6At_v x0 x1.fMember else default) < 0)) = false → impl_takeMembers_v x0 x1 x2 = spec_l6Take_v x0 x1 x2 := fun b hb hf hc => by
    unfold impl_takeMembers_v spec_l6Take_v
    rw [hid, hb, hc]
    simp only [Bool.not_true, cond_false, hk1, hf]
    cases x1.fKind != 1
    · simp only [cond_false]
      exact join_same _ (List.Pairwise.sublist List.filter_sublist hr) (Nat.le_trans (List.length_filter_le _ _) h8)
    · simp only [cond_true]
  cases hq : x1.fKind == 2
  · refine fin x0 (by unfold tmBase; rw [hq]; rfl) ?_ (by rw [hq]; rfl)
    congr 1
    funext m
    unfold l6Keep
    rw [hq]
    simp
  · have hat : decide (spec_l6At_v x0 x1.fMember < 0) = !(impl_findMember_v x0 x1.fMember).2 := by
      obtain ⟨p, hp, hle, h1, h2, h3⟩ := find_rise x0 hr x1.fMember
      rw [h3, ← l6At_any, Bool.eq_iff_iff, decide_eq_true_eq, Bool.not_eq_true', decide_eq_false_iff_not]; omega
    cases hf : (impl_findMember_v x0 x1.fMember).2
    · have hb : tmBase x0 x1 = none := by unfold tmBase; rw [hq, hf]; rfl
      unfold impl_takeMembers_v spec_l6Take_v
      rw [hid, hb, hq]
      simp only [cond_true, hat, hf]
      rfl
    · refine fin _ (by unfold tmBase; rw [hq, hf]; rfl) ?_ (by rw [hq]; simp only [cond_true, hat, hf]; rfl)
      rw [del_key hr hl _ hf, List.filter_filter]
      congr 1
      funext m
      unfold l6Keep
      rw [hq, Bool.true_and, Bool.and_comm]
theorem l6Take_code (x0 : List Member) (x1 : Tx) (x2 : Int) (h : (spec_l6Take_v x0 x1 x2).2 ≠ 0) : (spec_l6Take_v x0 x1 x2).1 = [] := by
  unfold spec_l6Take_v spec_l6Join_v at *
  revert h
  cases (x1.fKind == 2) && decide ((bif x1.fKind == 2 then spec_l6At_v x0 x1.fMember else default) < 0)
  · cases x1.fKind != 1
    · simp only [cond_false]
      cases decide (0 ≤ spec_l6At_v (x0.filter (l6Keep x1)) x1.fMember)
      · simp only [cond_false]
        cases (x0.filter (l6Keep x1)).any (fun m => (m.fRef.fTx == x2) && (m.fRef.fAt == 0))
        · simp only [cond_false]
          cases decide (8 ≤ ((x0.filter (l6Keep x1)).length : Int))
          · intro h; exact absurd rfl h
          · intro _; rfl
        · intro _; rfl
      · intro _; rfl
    · intro h; exact absurd rfl h
  · intro _; rfl
theorem isId_in (x2 : Int) : impl_isId_v x2 = spec_l1In_v x2 1 60 := by simp only [impl_isId_v, impl_within_v, spec_l1In_v]
theorem takeMembers_same (x0 : List Member) (x1 : Tx) (x2 : Int) (h0 : Lm smMember x0) : impl_TakeMembers_v x0 x1 x2 = spec_TakeMembers_v x0 x1 x2 := by
  unfold impl_TakeMembers_v spec_TakeMembers_v
  rw [membersFault_same, txFault_same]
  cases hf : (spec_l6Fault_v x0) != 0
  · simp only [cond_false]
    cases hg : (spec_l3Fault_v x1) != 0
    · simp only [cond_false]
      cases hi : spec_l1In_v x2 1 60
      · have hid : impl_isId_v x2 = false := by rw [isId_in]; exact hi
        have e : impl_takeMembers_v x0 x1 x2 = ([], 3) := by unfold impl_takeMembers_v; rw [hid]; rfl
        rw [e]; rfl
      · have hid : impl_isId_v x2 = true := by rw [isId_in]; exact hi
        rw [take_same x0 x1 x2 h0.1 (by simpa using hf) hid]
        simp only [Bool.not_true, cond_false]
        cases hz : (spec_l6Take_v x0 x1 x2).2 != 0
        · have : (spec_l6Take_v x0 x1 x2).2 = 0 := by simpa using hz
          rw [this]; rfl
        · have := l6Take_code x0 x1 x2 (by simpa using hz)
          rw [this]; rfl
    · simp only [cond_true]
  · simp only [cond_true]
theorem code_byte {x : Int} (h : iOk .u8 x) : 0 ≤ x ∧ x ≤ 255 := by
  have h' : (decide (IntKind.u8.min ≤ x) && decide (x ≤ IntKind.u8.max)) = true := h
  rw [Bool.and_eq_true, decide_eq_true_eq, decide_eq_true_eq] at h'
  exact h'
def MOK (m : Member) : Prop := spec_l1Key_v m.fKey = true ∧ spec_l3Ref_v m.fRef = true
def MDist (xs : List Member) : Prop := xs.Pairwise (fun a b => ¬ (a.fRef.fTx = b.fRef.fTx ∧ a.fRef.fAt = b.fRef.fAt))
theorem fault_parts {xs : List Member} (hl : xs.length ≤ 1048576) (h : spec_l6Fault_v xs = 0) : (∀ m ∈ xs, MOK m) ∧ MRise xs ∧ MDist xs ∧ xs.length ≤ 8 := by
  have hr := MRise.of hl h
  have h8 := members_len h
  unfold spec_l6Fault_v at h
  rw [decide_eq_false (show ¬ (8 < (xs.length : Int)) by omega)] at h
  obtain ⟨h1, h2⟩ := onO_zero h (fun i => two_ne _ _)
  refine ⟨?_, hr, ?_, h8⟩
  · intro m hm
    obtain ⟨i, hi, rfl⟩ := List.getElem_of_mem hm
    have h3 := fs_all h1 i hi
    have e : gt xs (i : Int) = xs[i] := by rw [gt_eq (by simpa using hi)]; simp
    rw [e] at h3
    unfold MOK
    cases ha : spec_l1Key_v xs[i].fKey
    · rw [ha] at h3; cases h3
    · cases hb : spec_l3Ref_v xs[i].fRef
      · rw [ha, hb] at h3; cases h3
      · exact ⟨rfl, rfl⟩
  · obtain ⟨h3, _⟩ := onO_zero h2 (fun i => by
      cases hq : (List.range' 0 (i - 0)).findSome? (fun (i4 : Nat) => (bif ((((gt xs (i4 : Int)).fRef.fTx) == ((gt xs (i : Int)).fRef.fTx)) && (((gt xs (i4 : Int)).fRef.fAt) == ((gt xs (i : Int)).fRef.fAt))) then (some (7 : Int)) else none)) with
      | none => exact fun e => by cases e
      | some z =>
        obtain ⟨a, _, hb⟩ := List.exists_of_findSome?_eq_some hq
        intro e
        have e' : z = 0 := Option.some.inj e
        subst e'
        cases hr : ((((gt xs (a : Int)).fRef.fTx) == ((gt xs (i : Int)).fRef.fTx)) && (((gt xs (a : Int)).fRef.fAt) == ((gt xs (i : Int)).fRef.fAt))) <;> rw [hr] at hb <;> cases hb)
    unfold MDist
    rw [List.pairwise_iff_getElem]
    intro i j hi hj hij hne
    have h4 := fs_all h3 j hj
    cases hq : (List.range' 0 (j - 0)).findSome? (fun (i4 : Nat) => (bif ((((gt xs (i4 : Int)).fRef.fTx) == ((gt xs (j : Int)).fRef.fTx)) && (((gt xs (i4 : Int)).fRef.fAt) == ((gt xs (j : Int)).fRef.fAt))) then (some (7 : Int)) else none)) with
    | some z => rw [hq] at h4; cases h4
    | none =>
      have h5 := fs_all hq i hij
      have e1 : gt xs (i : Int) = xs[i] := by rw [gt_eq (by simpa using hi)]; simp
      have e2 : gt xs (j : Int) = xs[j] := by rw [gt_eq (by simpa using hj)]; simp
      rw [e1, e2, hne.1, hne.2] at h5
      simp at h5
theorem fault_zero {xs : List Member} (h8 : xs.length ≤ 8) (hok : ∀ m ∈ xs, MOK m) (hr : MRise xs) (hd : MDist xs) : spec_l6Fault_v xs = 0 := by
  have hg : ∀ i : Nat, (hi : i < xs.length) → gt xs (i : Int) = xs[i] := fun i hi => by rw [gt_eq (by simpa using hi)]; simp
  have f1 : (List.range' 0 (xs.length - 0)).findSome? (fun (i0 : Nat) => (bif ((!(spec_l1Key_v ((gt xs (i0 : Int)).fKey))) || (!(bif (!(!(spec_l1Key_v ((gt xs (i0 : Int)).fKey)))) then (spec_l3Ref_v ((gt xs (i0 : Int)).fRef)) else default))) then (some (3 : Int)) else (bif ((decide (0 < (i0 : Int))) && (decide (((gt xs (i0 : Int)).fKey) ≤ ((gt xs (wrap64 ((i0 : Int) - 1))).fKey)))) then (some 1) else none))) = none := by
    rw [List.findSome?_eq_none_iff]
    intro i hi
    have hlt : i < xs.length := by rw [List.mem_range'_1] at hi; omega
    obtain ⟨k1, k2⟩ := hok _ (List.getElem_mem hlt)
    rw [hg i hlt, k1, k2]
    cases i with
    | zero => rfl
    | succ i =>
      have e : wrap64 (((i + 1 : Nat) : Int) - 1) = (i : Int) := by rw [wrap64_in _ (by omega)]; omega
      have h3 := List.pairwise_iff_getElem.1 hr i (i + 1) (by omega) hlt (by omega)
      rw [e, hg i (by omega), decide_eq_false (show ¬ xs[i + 1].fKey ≤ xs[i].fKey by omega), Bool.and_false]; rfl
  have f2 : (List.range' 0 (xs.length - 0)).findSome? (fun (i3 : Nat) => (onO ((List.range' 0 (i3 - 0)).findSome? (fun (i4 : Nat) => (bif ((((gt xs (i4 : Int)).fRef.fTx) == ((gt xs (i3 : Int)).fRef.fTx)) && (((gt xs (i4 : Int)).fRef.fAt) == ((gt xs (i3 : Int)).fRef.fAt))) then (some (7 : Int)) else none))) (fun r => (some r)) none)) = none := by
    rw [List.findSome?_eq_none_iff]
    intro j hj
    have hjl : j < xs.length := by rw [List.mem_range'_1] at hj; omega
    have : (List.range' 0 (j - 0)).findSome? (fun (i4 : Nat) => (bif ((((gt xs (i4 : Int)).fRef.fTx) == ((gt xs (j : Int)).fRef.fTx)) && (((gt xs (i4 : Int)).fRef.fAt) == ((gt xs (j : Int)).fRef.fAt))) then (some (7 : Int)) else none)) = none := by
      rw [List.findSome?_eq_none_iff]
      intro i hi
      have hij : i < j := by rw [List.mem_range'_1] at hi; omega
      have h3 := List.pairwise_iff_getElem.1 hd i j (by omega) hjl hij
      rw [hg i (by omega), hg j hjl]
      cases hq : (xs[i].fRef.fTx == xs[j].fRef.fTx) && (xs[i].fRef.fAt == xs[j].fRef.fAt)
      · rfl
      · rw [Bool.and_eq_true, beq_iff_eq, beq_iff_eq] at hq
        exact absurd hq h3
    rw [this]; rfl
  unfold spec_l6Fault_v
  rw [f1, f2, decide_eq_false (by omega)]; rfl
theorem memberOf_none {zs : List Member} {key : Int} (hl : zs.length ≤ 1048576) (h : spec_l6Fault_v zs = 0) (hn : ∀ m ∈ zs, m.fKey ≠ key) : impl_MemberOf_v zs key = ⟨4, []⟩ := by
  obtain ⟨p, hp, hle, h1, h2, h3⟩ := find_rise zs (MRise.of hl h) key
  have ha : zs.any (fun m => m.fKey == key) = false := by
    rw [List.any_eq_false]
    intro m hm; simpa using hn m hm
  unfold impl_MemberOf_v
  rw [membersFault_same, h, h3, ha]; rfl
theorem memberOf_some {zs : List Member} {m : Member} (hl : zs.length ≤ 1048576) (h : spec_l6Fault_v zs = 0) (hm : m ∈ zs) : impl_MemberOf_v zs m.fKey = ⟨0, [m]⟩ := by
  have hr := MRise.of hl h
  obtain ⟨p, hp, hle, h1, h2, h3⟩ := find_rise zs hr m.fKey
  have ha : zs.any (fun x => x.fKey == m.fKey) = true := by
    rw [List.any_eq_true]; exact ⟨m, hm, by simp⟩
  have hmd : m ∈ zs.drop p := by
    rw [← List.take_append_drop p zs] at hm
    rcases List.mem_append.1 hm with h | h
    · have := h1 m h; omega
    · exact h
  have hlt : p < zs.length := by
    rcases Nat.lt_or_ge p zs.length with h | h
    · exact h
    · rw [List.drop_of_length_le h] at hmd; cases hmd
  have ed : zs.drop p = zs[p] :: zs.drop (p + 1) := List.drop_eq_getElem_cons hlt
  have hrd : (zs[p] :: zs.drop (p + 1)).Pairwise (fun a b => a.fKey < b.fKey) := ed ▸ List.Pairwise.sublist (List.drop_sublist p zs) hr
  have hpm : zs[p] = m := by
    have h4 := h2 zs[p] (by rw [ed]; exact List.mem_cons_self)
    rw [ed] at hmd
    rcases List.mem_cons.1 hmd with h | h
    · exact h.symm
    · have := (List.pairwise_cons.1 hrd).1 m h; omega
  have hgp : gt zs (p : Int) = m := by rw [gt_eq (by simpa using hlt)]; simpa using hpm
  unfold impl_MemberOf_v
  rw [membersFault_same, h, h3, ha, hp, hgp]; rfl
theorem fold_snoc_len {α : Type} (f : Nat → α) : ∀ (l : List Nat) (a : List α), (l.foldl (fun ac i => ac ++ [f i]) a).length = a.length + l.length
  | [], a => rfl
  | i :: l, a => by
    rw [List.foldl_cons, fold_snoc_len f l]
    simp; omega
theorem keysOf_len (zs : List Member) (h : spec_l6Fault_v zs = 0) : (impl_KeysOf_v zs).fCode = 0 ∧ (impl_KeysOf_v zs).fList.length = zs.length := by
  unfold impl_KeysOf_v
  rw [membersFault_same, h]
  refine ⟨rfl, ?_⟩
  show (impl_keysOf_v zs).length = _
  unfold impl_keysOf_v
  rw [fold_snoc_len]; simp
theorem none_reflM {n : Nat} {p : Nat → Bool} (h : ∀ i, p i = false) : (List.range' 0 (n - 0)).findSome? (fun (i0 : Nat) => (bif p i0 then (some false) else none)) = none := by
  rw [List.findSome?_eq_none_iff]
  intro i _
  rw [h]; rfl
theorem sameMembers_refl (zs : List Member) : impl_SameMembers_v zs zs = true := by
  unfold impl_SameMembers_v slices_Equal_impl_Member_v
  have e : ((zs.length : Int) != (zs.length : Int)) = false := by simp
  rw [e, cond_false, none_reflM (fun i => by simp)]; rfl
structure Taken (xs : List Member) (t : Tx) (id : Int) (ys : List Member) : Prop where
  ok : spec_l6Fault_v ys = 0
  len : ys.length ≤ 8
  old : ∀ m ∈ ys, m.fKey ≠ t.fMember → m ∈ xs ∧ spec_l3Among_v t.fIns m.fRef = false
  join : t.fKind = 1 → (⟨t.fMember, ⟨id, 0⟩⟩ : Member) ∈ ys
  leave : t.fKind = 2 → ∀ m ∈ ys, m.fKey ≠ t.fMember
theorem taken {xs : List Member} {t : Tx} {id : Int} (hl : xs.length ≤ 1048576) (hf : spec_l6Fault_v xs = 0) (hg : spec_l3Fault_v t = 0) (hi : spec_l1In_v id 1 60 = true) (h0 : (spec_l6Take_v xs t id).2 = 0) : Taken xs t id (spec_l6Take_v xs t id).1 := by
  obtain ⟨p1, p2, p3, p4⟩ := fault_parts hl hf
  have ht := tx_ok t (by rw [hg]; rfl)
  have hsub : (xs.filter (l6Keep t)).Sublist xs := List.filter_sublist
  have q1 : ∀ m ∈ xs.filter (l6Keep t), MOK m := fun m hm => p1 m (hsub.subset hm)
  have q2 : MRise (xs.filter (l6Keep t)) := List.Pairwise.sublist hsub p2
  have q3 : MDist (xs.filter (l6Keep t)) := List.Pairwise.sublist hsub p3
  have q4 : (xs.filter (l6Keep t)).length ≤ 8 := Nat.le_trans (List.length_filter_le _ _) p4
  have q5 : ∀ m ∈ xs.filter (l6Keep t), m ∈ xs ∧ spec_l3Among_v t.fIns m.fRef = false ∧ (t.fKind = 2 → m.fKey ≠ t.fMember) := fun m hm => by
    rw [List.mem_filter] at hm
    obtain ⟨h1, h2⟩ := hm
    unfold l6Keep at h2
    rw [Bool.and_eq_true, Bool.not_eq_true', Bool.not_eq_true'] at h2
    refine ⟨h1, h2.2, fun hk he => ?_⟩
    have := h2.1
    rw [hk, he] at this
    simp at this
  unfold spec_l6Take_v at h0 ⊢
  cases hc : (t.fKind == 2) && decide ((bif t.fKind == 2 then spec_l6At_v xs t.fMember else default) < 0)
  · rw [hc] at h0
    simp only [cond_false] at h0 ⊢
    cases hk : t.fKind != 1
    · rw [hk] at h0
      simp only [cond_false] at h0 ⊢
      have hk1 : t.fKind = 1 := by simpa using hk
      generalize hx : (⟨t.fMember, ⟨id, 0⟩⟩ : Member) = x at h0 ⊢
      generalize ho : xs.filter (l6Keep t) = out at h0 q1 q2 q3 q4 q5 ⊢
      have hxk : x.fKey = t.fMember := by rw [← hx]
      have hxr : x.fRef = ⟨id, 0⟩ := by rw [← hx]
      unfold spec_l6Join_v at h0 ⊢
      cases ha : decide (0 ≤ spec_l6At_v out x.fKey)
      · rw [ha] at h0
        simp only [cond_false] at h0 ⊢
        cases hb : out.any (fun m => (m.fRef.fTx == x.fRef.fTx) && (m.fRef.fAt == x.fRef.fAt))
        · rw [hb] at h0
          simp only [cond_false] at h0 ⊢
          cases h8 : decide (8 ≤ (out.length : Int))
          · rw [l6At_any] at ha
            rw [List.any_eq_false] at ha hb
            obtain ⟨p, hp, hle, r1, r2, r3⟩ := find_rise out q2 x.fKey
            rw [jl_at hle r1 r2]
            simp only [cond_false]
            have h9 := of_decide_eq_false h8
            have hlen : (out.take p ++ [x] ++ out.drop p).length ≤ 8 := by simp; omega
            have hmem : ∀ m, m ∈ out.take p ++ [x] ++ out.drop p ↔ m = x ∨ m ∈ out := fun m => by
              conv => rhs; rw [← List.take_append_drop p out]
              simp only [List.mem_append, List.mem_singleton]
              constructor
              · rintro ((h | h) | h) <;> simp [h]
              · rintro (h | h | h) <;> simp [h]
            have hxo : MOK x := by
              refine ⟨?_, ?_⟩
              · have := ht.mem (by omega)
                rw [hxk]
                simp only [spec_l1Key_v, spec_l1In_v, Bool.and_eq_true, decide_eq_true_eq]; exact this
              · rw [hxr]
                unfold spec_l3Ref_v
                rw [hi]
                rfl
            have hne : ∀ m ∈ out, m.fKey ≠ x.fKey := fun m hm he => ha m hm (by simpa using he)
            have hrs : MRise (out.take p ++ [x] ++ out.drop p) := by
              unfold MRise at q2 ⊢
              rw [List.append_assoc, List.pairwise_append]
              refine ⟨List.Pairwise.sublist (List.take_sublist p out) q2, ?_, fun a ha' b hb' => ?_⟩
              · rw [List.singleton_append, List.pairwise_cons]
                refine ⟨fun b hb => ?_, List.Pairwise.sublist (List.drop_sublist p out) q2⟩
                have h5 := r2 b hb
                have h6 := hne b (List.mem_of_mem_drop hb)
                omega
              · rw [List.singleton_append] at hb'
                rcases List.mem_cons.1 hb' with hbx | hb'
                · rw [hbx]; exact r1 a ha'
                · have h5 := r1 a ha'
                  have h6 := r2 b hb'
                  omega
            have hds : MDist (out.take p ++ [x] ++ out.drop p) := by
              have hno : ∀ m ∈ out, ¬ (m.fRef.fTx = x.fRef.fTx ∧ m.fRef.fAt = x.fRef.fAt) := fun m hm he => hb m hm (by rw [Bool.and_eq_true, beq_iff_eq, beq_iff_eq]; exact he)
              unfold MDist at q3 ⊢
              have q3' := q3
              rw [← List.take_append_drop p out, List.pairwise_append] at q3'
              rw [List.append_assoc, List.pairwise_append]
              refine ⟨q3'.1, ?_, fun a ha' b hb' => ?_⟩
              · rw [List.singleton_append, List.pairwise_cons]
                exact ⟨fun b hb he => hno b (List.mem_of_mem_drop hb) ⟨he.1.symm, he.2.symm⟩, q3'.2.1⟩
              · rw [List.singleton_append] at hb'
                rcases List.mem_cons.1 hb' with hbx | hb'
                · rw [hbx]; exact hno a (List.mem_of_mem_take ha')
                · exact q3'.2.2 a ha' b hb'
            refine ⟨fault_zero hlen (fun m hm => ?_) hrs hds, hlen, fun m hm hk2 => ?_, fun _ => ?_, fun h2 => ?_⟩
            · rcases (hmem m).1 hm with rfl | h
              · exact hxo
              · exact q1 m h
            · rcases (hmem m).1 hm with rfl | h
              · exact absurd hxk hk2
              · exact ⟨(q5 m h).1, (q5 m h).2.1⟩
            · exact (hmem _).2 (.inl hx)
            · omega
          · rw [h8] at h0; exact absurd (show (2 : Int) = 0 from h0) (by decide)
        · rw [hb] at h0; exact absurd (show (7 : Int) = 0 from h0) (by decide)
      · rw [ha] at h0; exact absurd (show (7 : Int) = 0 from h0) (by decide)
    · have hk1 : t.fKind ≠ 1 := by simpa using hk
      exact ⟨fault_zero q4 q1 q2 q3, q4, fun m hm _ => ⟨(q5 m hm).1, (q5 m hm).2.1⟩, fun h => absurd h hk1, fun h m hm => (q5 m hm).2.2 h⟩
  · rw [hc] at h0; exact absurd (show (4 : Int) = 0 from h0) (by decide)
theorem take_code (xs : List Member) (t : Tx) (id : Int) (h : ((spec_TakeMembers_v xs t id).fCode != 0) = false) : spec_l6Fault_v xs = 0 ∧ spec_l3Fault_v t = 0 ∧ spec_l1In_v id 1 60 = true ∧ (spec_l6Take_v xs t id).2 = 0 ∧ spec_TakeMembers_v xs t id = ⟨0, (spec_l6Take_v xs t id).1⟩ := by
  unfold spec_TakeMembers_v at h ⊢
  cases h1 : spec_l6Fault_v xs != 0
  · rw [h1] at h
    simp only [cond_false] at h ⊢
    cases h2 : spec_l3Fault_v t != 0
    · rw [h2] at h
      simp only [cond_false] at h ⊢
      cases h3 : spec_l1In_v id 1 60
      · rw [h3] at h; cases h
      · rw [h3] at h
        simp only [Bool.not_true, cond_false] at h ⊢
        cases h4 : (spec_l6Take_v xs t id).2 != 0
        · exact ⟨by simpa using h1, by simpa using h2, trivial, by simpa using h4, rfl⟩
        · rw [h4] at h
          exact absurd h4 (by rw [show ((spec_l6Take_v xs t id).2 != 0) = false from h]; decide)
    · rw [h2] at h
      exact absurd h2 (by rw [show (spec_l3Fault_v t != 0) = false from h]; decide)
  · rw [h1] at h
    exact absurd h1 (by rw [show (spec_l6Fault_v xs != 0) = false from h]; decide)
theorem law_loop1 (xs ys : List Member) (t : Tx) (id : Int) (T : (List Member) × Tx × Int) (hT : T = (xs, t, id)) (R : MembersResult) (hR : R = ⟨0, ys⟩) (ht : smTx t) (hk : Taken xs t id ys) (i : Nat) (hi : i < ys.length) : ∀ (d j : Nat), j + d = t.fIns.length → Evt (fun k => laws_FnMembers.l1 T R (i : Int) k (j : Int)) (.inr ())
  | 0, j, h => by
    subst hT; subst hR
    refine Evt.s ?_
    simp only [laws_FnMembers.l1_s]
    exact Evt.f (decide_eq_false (by omega)) (Evt.self _)
  | d + 1, j, h => by
    have hn := ht.2.2.1.1
    have hj : j < t.fIns.length := by omega
    have ew : wrap64 ((j : Int) + 1) = ((j + 1 : Nat) : Int) := by rw [wrap64_in _ (by omega)]; omega
    have ih := law_loop1 xs ys t id T hT R hR ht hk i hi d (j + 1) (by omega)
    subst hT; subst hR
    refine Evt.s ?_
    simp only [laws_FnMembers.l1_s, ew]
    refine Evt.t (int_lt hj) (Evt.chk (idx_ok hj) (Evt.f ?_ ih))
    have hm := gt_mem hi
    cases hq : ((gt ys (i : Int)).fKey != t.fMember)
    · rw [Bool.and_false]
    · have hne : (gt ys (i : Int)).fKey ≠ t.fMember := by simpa using hq
      have ha := (hk.old _ hm hne).2
      rw [Bool.and_true]
      cases hr : (((gt t.fIns (j : Int)).fTx) == ((gt ys (i : Int)).fRef.fTx)) && (((gt t.fIns (j : Int)).fAt) == ((gt ys (i : Int)).fRef.fAt))
      · rfl
      · rw [Bool.and_eq_true, beq_iff_eq, beq_iff_eq] at hr
        have e : gt t.fIns (j : Int) = (gt ys (i : Int)).fRef := by
          cases h1 : gt t.fIns (j : Int); cases h2 : (gt ys (i : Int)).fRef
          rw [h1, h2] at hr
          simp only at hr
          rw [hr.1, hr.2]
        have := (among_iff t.fIns (gt ys (i : Int)).fRef).2 (e ▸ gt_mem hj)
        rw [ha] at this; cases this
theorem law_loop0 (xs ys : List Member) (t : Tx) (id : Int) (T : (List Member) × Tx × Int) (hT : T = (xs, t, id)) (R : MembersResult) (hR : R = ⟨0, ys⟩) (hl : xs.length ≤ 1048576) (hf : spec_l6Fault_v xs = 0) (ht : smTx t) (hk : Taken xs t id ys) : ∀ (d i : Nat), i + d = ys.length → Evt (fun k => laws_FnMembers.l0 T R k (i : Int)) (.inr ())
  | 0, i, h => by
    subst hT; subst hR
    refine Evt.s ?_
    simp only [laws_FnMembers.l0_s]
    exact Evt.f (decide_eq_false (by omega)) (Evt.self _)
  | d + 1, i, h => by
    have hn := hk.len
    have hi : i < ys.length := by omega
    have ew : wrap64 ((i : Int) + 1) = ((i + 1 : Nat) : Int) := by rw [wrap64_in _ (by omega)]; omega
    have ih := law_loop0 xs ys t id T hT R hR hl hf ht hk d (i + 1) (by omega)
    have e1 := law_loop1 xs ys t id T hT R hR ht hk i hi t.fIns.length 0 (by omega)
    subst hT; subst hR
    refine Evt.s ?_
    simp only [laws_FnMembers.l0_s, ew]
    have em := impl_MemberOf_ev xs (gt ys (i : Int)).fKey (sm_members hl)
    have hm := gt_mem hi
    refine Evt.t (int_lt hi) ?_
    refine Evt.bind (a := (.inr () : Bool ⊕ Unit)) (Evt.chk (idx_ok hi) (Evt.bind em (Evt.chk ?_ (Evt.f ?_ e1)))) (by exact ih)
    · cases hq : ((gt ys (i : Int)).fKey != t.fMember)
      · rfl
      · have hne : (gt ys (i : Int)).fKey ≠ t.fMember := by simpa using hq
        rw [memberOf_some hl hf (hk.old _ hm hne).1]; rfl
    · cases hq : ((gt ys (i : Int)).fKey != t.fMember)
      · rfl
      · have hne : (gt ys (i : Int)).fKey ≠ t.fMember := by simpa using hq
        rw [memberOf_some hl hf (hk.old _ hm hne).1]
        show (true && (((0 : Int) != 0) || !((gt [gt ys (i : Int)] (0 : Int)).fKey == (gt ys (i : Int)).fKey && ((gt [gt ys (i : Int)] (0 : Int)).fRef.fTx == (gt ys (i : Int)).fRef.fTx && (gt [gt ys (i : Int)] (0 : Int)).fRef.fAt == (gt ys (i : Int)).fRef.fAt)))) = false
        have e : gt [gt ys (i : Int)] (0 : Int) = gt ys (i : Int) := rfl
        rw [e]; simp
theorem same_FnMembers (c : List Int) (o0 : Lok (iOk .u8) c) : Evt (fun k => laws_FnMembers.f k c) true := by
  have eb : Evt (fun k => laws_lwBig.f k c) (decide (1048576 < (c.length : Int))) := Evt.self _
  cases hb : decide (1048576 < (c.length : Int))
  · have hc : codeOK c := ⟨by have := of_decide_eq_false hb; omega, fun x hx => code_byte (o0.2 x hx)⟩
    obtain ⟨xs, t, id, eD, hxl, ht⟩ := DrawTakeMembers_ev c hc
    have hl : xs.length ≤ 1048576 := by omega
    have hxs := sm_members hl
    have eT := impl_TakeMembers_ev xs t id hxs ht
    have eS := spec_TakeMembers_ev xs t id hxs ht
    rw [takeMembers_same xs t id hxs] at eT
    refine Evt.bind eb (Evt.f hb (Evt.bind eD (Evt.bind eT ?_)))
    cases hz : (spec_TakeMembers_v xs t id).fCode != 0
    · obtain ⟨hf, hg, hi, h0, hv⟩ := take_code xs t id hz
      have hk := taken hl hf hg hi h0
      rw [hv] at eS hz ⊢
      generalize (spec_l6Take_v xs t id).1 = ys at hk eS hz ⊢
      have h8 := hk.len
      have hyl : ys.length ≤ 1048576 := by omega
      have hys := sm_members hyl
      have em := impl_MemberOf_ev ys t.fMember hys
      refine Evt.f rfl (Evt.bind em (Evt.bind (law_loop0 xs ys t id _ rfl _ rfl hl hf ht hk ys.length 0 (by omega)) ?_))
      obtain ⟨hk1, hk2⟩ := keysOf_len ys hk.ok
      have hcond : (((t.fKind == 1) && (((impl_MemberOf_v ys t.fMember).fCode != 0) || (!((((gt (impl_MemberOf_v ys t.fMember).fMembers (0 : Int)).fRef.fTx) == id) && (((gt (impl_MemberOf_v ys t.fMember).fMembers (0 : Int)).fRef.fAt) == 0))))) || ((t.fKind == 2) && ((impl_MemberOf_v ys t.fMember).fCode != 4))) = false ∧ (!((t.fKind == 1) && (!((impl_MemberOf_v ys t.fMember).fCode != 0))) || (idxOk (0 : Int) (impl_MemberOf_v ys t.fMember).fMembers.length)) = true := by
        cases h1 : t.fKind == 1
        · cases h2 : t.fKind == 2
          · exact ⟨rfl, rfl⟩
          · have e2 : t.fKind = 2 := by simpa using h2
            rw [memberOf_none hyl hk.ok (hk.leave e2)]
            exact ⟨rfl, rfl⟩
        · have e1 : t.fKind = 1 := by simpa using h1
          have hms := memberOf_some hyl hk.ok (hk.join e1)
          have hms' : impl_MemberOf_v ys t.fMember = ⟨0, [⟨t.fMember, ⟨id, 0⟩⟩]⟩ := hms
          rw [hms', e1]
          have eg : gt [(⟨t.fMember, ⟨id, 0⟩⟩ : Member)] (0 : Int) = ⟨t.fMember, ⟨id, 0⟩⟩ := rfl
          refine ⟨?_, rfl⟩
          show ((true && (((0 : Int) != 0) || (!((((gt [(⟨t.fMember, ⟨id, 0⟩⟩ : Member)] (0 : Int)).fRef.fTx) == id) && (((gt [(⟨t.fMember, ⟨id, 0⟩⟩ : Member)] (0 : Int)).fRef.fAt) == 0))))) || (((1 : Int) == 2) && ((0 : Int) != 4))) = false
          rw [eg]; simp
      refine Evt.chk hcond.2 (Evt.f hcond.1 (Evt.bind (impl_KeysOf_ev ys hys) (Evt.bind (impl_MembersFault_ev ys hys) ?_)))
      have hall : (((impl_MembersFault_v ys == 0) && ((impl_KeysOf_v ys).fCode == 0)) && (((impl_KeysOf_v ys).fList.length : Int) == (ys.length : Int))) = true := by
        rw [membersFault_same, hk.ok, hk1, hk2]; simp
      refine Evt.bind (Evt.t hall eS) (Evt.bind (Evt.t hall (impl_SameMembers_ev ys ys hys hys)) (Evt.ret ?_))
      rw [sameMembers_refl, Bool.and_true]
      exact hall
    · refine Evt.t rfl (Evt.bind eS (Evt.ret ?_))
      simp
  · exact Evt.bind eb (Evt.t hb (Evt.self _))
end Go.Proofs.Ytbbcabpnkdilgaa.Zk
namespace Go.Proofs.Ytbbcabpnkdilgaa.Pure
open Go Go.Proofs.Ytbbcabpnkdilgaa.Zk
theorem FnMembers (x0 : List Int) (o0 : Lok (iOk .u8) x0) : ∃ k, laws_FnMembers.f k x0 = some true := (same_FnMembers x0 o0).get
end Go.Proofs.Ytbbcabpnkdilgaa.Pure
