/- Rows of one's own, cut and moved within. No condition. -/
import Derived.Test.YtmaolhocmkkmjaaGreatDoorZkX
namespace Go.Proofs.YtmaolhocmkkmjaaGreatDoor.Zk
set_option linter.unusedVariables false
set_option linter.unusedSimpArgs false
open Go Go.RowKit Go.IntWalk
def cutv : Value → Nat → Nat → Nat → Value
  | .slice A _ c, l, h, sz => .slice (if c = l then A else A.map (·.add (l * sz))) (h - l) (c - l)
  | v, _, _, _ => v
theorem cutv_eq (A : Option Addr) (n c l h sz : Nat) : cutv (.slice A n c) l h sz = .slice (if c = l then A else A.map (·.add (l * sz))) (h - l) (c - l) := rfl
theorem add0 (g k : Nat) : (⟨g, 0, none⟩ : Addr).add k = ⟨g, k, none⟩ := by unfold Addr.add; split <;> simp_all
def CapGe (v : Value) (m : Nat) : Prop := ∃ A n c, v = .slice A n c ∧ n ≤ c ∧ m ≤ c
theorem RdS.cap {α : Type} {d : Kd α} {w : World} {v : Value} {xs : List α} (h : RdS d w v xs) : CapGe v xs.length := by
  obtain ⟨A, c, h1, h2, _⟩ := h
  exact ⟨A, _, c, h1, h2, h2⟩
theorem cut_lt2 {i j : Int} {n : Nat} (h : cutOk i j.toNat = true) (k : cutOk j n = true) : i ≤ j := by
  have := cut_lo h; have := cut_hi h; have := cut_lo k; omega
theorem cut_le2 {j : Int} {n : Nat} (k : cutOk j n = true) : j ≤ (n : Int) := by
  have := cut_lo k; have := cut_hi k; omega
section cuts
variable {P : Program} {ρ : Env} {w : World} {o : Oper} {T e sz : Nat} {x y z t : Operand} {v : Value} {i j m : Int} {k k' k'' : IntKind}
theorem run_cutv {l h n c : Nat} {A : Option Addr} (hu : P.underlying T = some (.slice e)) (hs : tsz P e = some sz) (lo hi : Option Value) (hl : lo = none ∧ l = 0 ∨ ∃ k, lo = some (.int k l)) (hh : hi = none ∧ h = n ∨ ∃ k, hi = some (.int k h)) (hlh : l ≤ h) (hc : h ≤ c) (hn : n ≤ c) :
    (Instr.sliceAt T (.slice A n c) lo hi none).run P w = .ok (cutv (.slice A n c) l h sz) w := run_sliceCut hu hs lo hi hl hh hlh hc hn
theorem ex_cutvH (ho : o.op = .slice T x none (some y) none) (hx : ev ρ x = some v) (hy : ev ρ y = some (.int k i)) (hu : P.underlying T = some (.slice e)) (hs : tsz P e = some sz) (h0 : 0 ≤ i) (hc : CapGe v i.toNat) : Ex P ρ w o (cutv v 0 i.toNat sz) w := fun f hf => by
  obtain ⟨A, n, c, rfl, h1, h2⟩ := hc
  have hr := run_cutv (w := w) (A := A) (c := c) (n := n) hu hs none (some (.int k (i.toNat : Int))) (.inl ⟨rfl, rfl⟩) (.inr ⟨k, rfl⟩) (Nat.zero_le _) h2 h1
  rw [Int.toNat_of_nonneg h0] at hr
  simp [execOp, ho, hf.ev _ _ hx, hf.ev _ _ hy, hr]
end cuts
section moves
variable {P : Program} {ρ : Env} {w w0 : World} {X : List Nat} {M : List Chunk} {o : Oper} {T e sz by_ : Nat} {s x : Operand} {v z : Value} {α : Type} {xs : List α}
end moves

section onto
variable {P : Program} {ρ : Env} {w w0 : World} {X : List Nat} {M : List Chunk} {o : Oper} {T e by_ : Nat} {s x : Operand} {z : Value} {α : Type} {xs : List α}
theorem Elems.cut {d : Kd α} {w : World} {cs : List Value} {xs : List α} {fs : List Nat} (hE : Elems d w cs xs fs) : ∀ j, j ≤ xs.length → ∃ f1 f2, fs = f1 ++ f2 ∧ Elems d w (cs.take (j * d.sz)) (xs.take j) f1 ∧ Elems d w (cs.drop (j * d.sz)) (xs.drop j) f2 := by
  induction hE with
  | nil => intro j hj; exact ⟨[], [], rfl, by simpa using .nil, by simpa using .nil⟩
  | @cons c cs x xs f fs ho hs ih =>
    intro j hj
    cases j with
    | zero => exact ⟨[], f ++ fs, rfl, by simpa using .nil, by simpa using .cons ho hs⟩
    | succ j =>
      obtain ⟨f1, f2, rfl, h1, h2⟩ := ih j (by simpa using hj)
      have hl := d.len (d.OR ho)
      have e1 : (j + 1) * d.sz = c.length + j * d.sz := by rw [hl, Nat.add_mul, Nat.one_mul, Nat.add_comm]
      refine ⟨f ++ f1, f2, by simp, ?_, ?_⟩
      · rw [e1, List.take_length_add_append, List.take_succ_cons]; exact .cons ho h1
      · rw [e1, List.drop_length_add_append, List.drop_succ_cons]; exact h2
end onto
end Go.Proofs.YtmaolhocmkkmjaaGreatDoor.Zk
