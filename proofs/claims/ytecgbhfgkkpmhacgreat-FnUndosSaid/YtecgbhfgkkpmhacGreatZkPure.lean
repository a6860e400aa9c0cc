/- Words for the plain laws: what holds from some amount of fuel on. Conditions: as each theorem states them. -/
import Derived.Test.YtecgbhfgkkpmhacGreatZk
namespace Go.Proofs.YtecgbhfgkkpmhacGreat.Zk
open Go Go.RowKit Go.IntWalk
set_option linter.unusedVariables false
def Evt {α : Type} (f : Nat → Option α) (a : α) : Prop := ∃ K, ∀ k, K ≤ k → f k = some a
section evt
variable {α β γ σ : Type}
theorem Evt.ret {a b : α} (h : a = b) : Evt (fun _ => some a) b := ⟨0, fun _ _ => by rw [h]⟩
theorem Evt.self (a : α) : Evt (fun _ => some a) a := .ret rfl
theorem Evt.bind {f : Nat → Option α} {g : Nat → α → Option β} {a : α} {b : β} (h : Evt f a) (k : Evt (fun n => g n a) b) : Evt (fun n => (f n).bind (g n)) b := by
  obtain ⟨K, hK⟩ := h
  obtain ⟨M, hM⟩ := k
  exact ⟨K + M, fun n hn => by show (f n).bind (g n) = some b; rw [hK n (by omega)]; exact hM n (by omega)⟩
theorem Evt.chk {f : Nat → Option α} {c : Bool} {a : α} (hc : c = true) (h : Evt f a) : Evt (fun n => Zk.chk c (f n)) a := by subst hc; exact h
theorem Evt.t {f g : Nat → Option α} {c : Bool} {a : α} (hc : c = true) (h : Evt f a) : Evt (fun n => bif c then f n else g n) a := by subst hc; exact h
theorem Evt.f {f g : Nat → Option α} {c : Bool} {a : α} (hc : c = false) (h : Evt g a) : Evt (fun n => bif c then f n else g n) a := by subst hc; exact h
theorem Evt.if_ {f g : Nat → Option α} {c : Bool} {a b : α} (h : Evt f a) (k : Evt g b) : Evt (fun n => bif c then f n else g n) (bif c then a else b) := by cases c; exact k; exact h
theorem Evt.cases {f g : Nat → Option α} {c : Bool} {a : α} (h : c = true → Evt f a) (k : c = false → Evt g a) : Evt (fun n => bif c then f n else g n) a := by cases c; exact k rfl; exact h rfl
theorem Evt.s {f : Nat → Option α} {a : α} (h : Evt (fun n => f (n + 1)) a) : Evt f a := by
  obtain ⟨K, hK⟩ := h
  exact ⟨K + 1, fun n hn => by obtain ⟨m, rfl⟩ : ∃ m, n = m + 1 := ⟨n - 1, by omega⟩; exact hK m (by omega)⟩
theorem Evt.to {f : Nat → Option α} {a b : α} (h : Evt f a) (e : a = b) : Evt f b := e ▸ h
theorem Evt.get {f : Nat → Option α} {a : α} (h : Evt f a) : ∃ k, f k = some a := by
  obtain ⟨K, hK⟩ := h
  exact ⟨K, hK K (Nat.le_refl _)⟩
theorem w64 {n : Nat} {i : Nat} (h : i < n) (hn : n ≤ 9223372036854775807) : wrap64 ((i : Int) + 1) = ((i + 1 : Nat) : Int) := by unfold wrap64; omega
theorem Evt.search {L : Nat → Int → Option (β ⊕ Unit)} (n : Nat) (hn : n ≤ 9223372036854775807) (p : Nat → Option β)
    (step : ∀ i, i < n → ∀ o, (p i = none → Evt (fun k => L k (wrap64 ((i : Int) + 1))) o) → (∀ r, p i = some r → o = .inl r) → Evt (fun k => L k (i : Int)) o)
    (done : Evt (fun k => L k (n : Int)) (.inr ())) : Evt (fun k => L k 0) (match (List.range n).findSome? p with | some r => .inl r | none => .inr ()) := by
  have key : ∀ d i, i + d = n → Evt (fun k => L k (i : Int)) (match ((List.range' i d).findSome? p) with | some r => .inl r | none => .inr ()) := by
    intro d
    induction d with
    | zero => intro i hi; have : i = n := by omega
              subst this; exact done
    | succ d ih =>
      intro i hi
      rw [List.range'_succ, List.findSome?_cons]
      refine step i (by omega) _ (fun h => ?_) (fun r h => ?_)
      · rw [h, w64 (by omega : i < n) hn]; exact ih (i + 1) (by omega)
      · rw [h]
  have := key n 0 (by omega)
  rw [List.range_eq_range']
  exact this
theorem idx_ok {i n : Nat} (h : i < n) : idxOk (i : Int) n = true := by unfold idxOk; simp; omega
theorem int_lt {i n : Nat} (h : i < n) : decide ((i : Int) < (n : Int)) = true := by simp; omega
theorem int_nlt {n : Nat} : decide ((n : Int) < (n : Int)) = false := by simp
theorem notF {c : Bool} (h : (!c) = false) : c = true := by cases c; cases h; rfl
end evt
section vals
variable {α β γ : Type}
theorem Evt.ifh {f g : Nat → Option α} {c : Bool} {a b : α} (h : c = true → Evt f a) (k : c = false → Evt g b) : Evt (fun n => bif c then f n else g n) (bif c then a else b) := by cases c; exact k rfl; exact h rfl
def onO (o : Option β) (r : β → γ) (c : γ) : γ := match o with
  | some x => r x
  | none => c
def StE (f nxt : Nat → Option (β ⊕ Unit)) (v : Option β) : Prop := ∀ o, (v = none → Evt nxt o) → (∀ r, v = some r → o = .inl r) → Evt f o
theorem StE.ret {nxt : Nat → Option (β ⊕ Unit)} (r : β) : StE (fun _ => some (.inl r)) nxt (some r) := fun o _ h => .ret (h r rfl).symm
theorem StE.next {nxt : Nat → Option (β ⊕ Unit)} : StE nxt nxt none := fun o h _ => h rfl
theorem StE.ifh {f g nxt : Nat → Option (β ⊕ Unit)} {c : Bool} {a b : Option β} (h : c = true → StE f nxt a) (k : c = false → StE g nxt b) : StE (fun n => bif c then f n else g n) nxt (bif c then a else b) := by cases c; exact k rfl; exact h rfl
theorem StE.chk {f nxt : Nat → Option (β ⊕ Unit)} {c : Bool} {a : Option β} (hc : c = true) (h : StE f nxt a) : StE (fun n => Zk.chk c (f n)) nxt a := by subst hc; exact h
theorem StE.bind {f : Nat → Option α} {g : Nat → α → Option (β ⊕ Unit)} {nxt : Nat → Option (β ⊕ Unit)} {a : α} {v : Option β} (h : Evt f a) (k : StE (fun n => g n a) nxt v) : StE (fun n => (f n).bind (g n)) nxt v := fun o h1 h2 => Evt.bind h (k o h1 h2)
theorem Evt.srch {L : Nat → Int → Option (β ⊕ Unit)} (s n : Nat) (hn : n ≤ 9223372036854775807) (p : Nat → Option β)
    (step : ∀ i, s ≤ i → i < n → StE (fun k => L (k + 1) (i : Int)) (fun k => L k (wrap64 ((i : Int) + 1))) (p i))
    (done : ∀ i : Nat, n ≤ i → Evt (fun k => L (k + 1) (i : Int)) (.inr ())) : Evt (fun k => L k (s : Int)) (onO ((List.range' s (n - s)).findSome? p) .inl (.inr ())) := by
  have key : ∀ d i, s ≤ i → (i + d = n ∨ n ≤ i ∧ d = 0) → Evt (fun k => L k (i : Int)) (onO ((List.range' i d).findSome? p) .inl (.inr ())) := by
    intro d
    induction d with
    | zero => intro i hs hi; exact Evt.s (done i (by omega))
    | succ d ih =>
      intro i hs hi
      rw [List.range'_succ, List.findSome?_cons]
      refine Evt.s (step i hs (by omega) _ (fun h => ?_) (fun r h => ?_))
      · rw [h, w64 (by omega : i < n) hn]; exact ih (i + 1) (by omega) (by omega)
      · rw [h]; rfl
  exact key (n - s) s (Nat.le_refl _) (by omega)
theorem Evt.loop {f : Nat → Option (β ⊕ Unit)} {r : β → Option γ} {g : Nat → Unit → Option γ} {o : Option β} {r' : β → γ} {c : γ} (h : Evt f (onO o .inl (.inr ()))) (hr : ∀ x, r x = some (r' x)) (hg : Evt (fun n => g n ()) c) :
    Evt (fun n => (f n).bind fun o => Zk.thn o r (g n)) (onO o r' c) := by
  refine Evt.bind h ?_
  cases o with
  | some x => exact ⟨0, fun n _ => hr x⟩
  | none => exact hg
theorem ge_lt {i n : Nat} (h : n ≤ i) : decide ((i : Int) < (n : Int)) = false := by simp; omega
theorem or1 {a b : Bool} (h : a = true → b = true) : (!a || b) = true := by cases a; rfl; simpa using h rfl
theorem pre_ok {i n : Nat} (h : 1 ≤ i) (k : i < n) (hn : n ≤ 9223372036854775807) : idxOk (wrap64 ((i : Int) - 1)) n = true := by
  unfold idxOk
  have e : wrap64 ((i : Int) - 1) = (i : Int) - 1 := by unfold wrap64; omega
  rw [e]; simp; omega
theorem or_ok {a b : Bool} (h : b = true) : (!a || b) = true := by subst h; cases a <;> rfl
end vals
end Go.Proofs.YtecgbhfgkkpmhacGreat.Zk
