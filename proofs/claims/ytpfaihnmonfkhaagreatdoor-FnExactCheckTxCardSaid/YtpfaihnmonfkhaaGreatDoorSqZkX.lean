/- More of the calculus: rows of the caller's that a call turns, orders that stay open, numbers of other kinds. No condition. -/
import Derived.Test.YtpfaihnmonfkhaaGreatDoorSqZk
import Derived.Laws.Cover3
import Derived.Sort.Grow
import Derived.Deep.Draws
import Derived.Laws.BytesArg
namespace Go.Proofs.YtpfaihnmonfkhaaGreatDoorSq.Zk
set_option linter.unusedVariables false
set_option linter.unusedSimpArgs false
open Go Go.RowKit Go.IntWalk

section turn
variable {w0 w w' wo : World} {X : List Nat} {M Ms : List Chunk}
end turn

section rets
variable {P : Program} {N : Nat} {ρ : Env} {w : World} {fn : Func} {R : Ending → World → Prop}
end rets

section short
variable {P : Program} {N : Nat} {ρ : Env} {w : World} {Q : Post} {ops : Array Oper} {S : World → Prop} {fuel : Nat} {l l' : Array Bool} {o : Oper} {i d : Nat} {is : List Nat} {plan : List (Nat × Bool)}
theorem ox {v : Value} {w' : World} (ho : ops[i]? = some o) (hg : o.guard = none) (hd : o.dst = some d) (hN : Nat.blt d N = true) (hx : Ex P ρ w o v w') (k : Ops P ops N ((d, v) :: ρ) w' Q is) : Ops P ops N ρ w Q (i :: is) := ops_ex ho (guard_none hg) hd hN hx k
theorem od {R : Value → World → Prop} (ho : ops[i]? = some o) (hg : o.guard = none) (hd : o.dst = some d) (hN : Nat.blt d N = true) (hx : Does P ρ w o R) (k : ∀ v w', R v w' → Ops P ops N ((d, v) :: ρ) w' Q is) : Ops P ops N ρ w Q (i :: is) := ops_does ho (guard_none hg) hd hN hx k
theorem dp {v : Value} (ho : ops[i]? = some o) (hg : o.guard = none) (hd : o.dst = some d) (hN : Nat.blt d N = true) (hy : ∀ {w' : World}, Ex P ρ w' o v w') (hS : S w) (k : DrwP P ops N Q S plan ((d, v) :: ρ) w) : DrwP P ops N Q S ((i, true) :: plan) ρ w := drwp_take ho (guard_none hg) hd hN (fun _ _ => hy) hS k
end short

section open_
variable {P : Program} {N : Nat} {ρ : Env} {w : World} {Q : Post} {ops : Array Oper} {S : World → Prop} {fuel : Nat} {l l' : Array Bool} {o : Oper} {i d : Nat}
end open_

section nums
variable {P : Program} {ρ : Env} {w : World} {o : Oper} {x y : Operand} {t t' : TypeId} {k k' : IntKind} {p q : Int}
end nums

section builds
variable {P : Program} {ρ : Env} {w : World} {o : Oper} {T : Nat} {parts : Array (Nat × Operand)} {u u' u'' : Value}
end builds

section lent
variable {α β : Type}
end lent

section focus
variable {w0 w : World} {X : List Nat} {M : List Chunk} {α β : Type}
end focus

theorem fr_grow {W w' : World} (hd : DR) (h : Fr W [] w') : ∃ q os', w' = Go.Sort.grow (W.drewN q) os' := by
  refine ⟨w'.drawn - W.drawn, w'.heap.extract W.heap.size w'.heap.size, ?_⟩
  have h1 := h.os; have h2 := h.tape; have h3 := h.output; have h4 := h.size; have h5 := h.drawn hd
  have hh : w'.heap = W.heap ++ w'.heap.extract W.heap.size w'.heap.size := by
    apply Array.ext
    · simp; omega
    · intro i hi1 hi2
      by_cases hlt : i < W.heap.size
      · have := h.block i hlt (by simp)
        rw [Array.getElem_append_left hlt]
        rw [Array.getElem?_eq_getElem hi1, Array.getElem?_eq_getElem hlt] at this
        exact Option.some.inj this
      · rw [Array.getElem_append_right (by omega)]
        simp only [Array.getElem_extract]
        congr 1; omega
  cases w' with
  | mk heap tape drawn os output =>
    cases W with
    | mk heap0 tape0 drawn0 os0 output0 =>
      simp only at h1 h2 h3 h4 h5 hh
      subst h1; subst h2; subst h3
      have e : drawn0 + (drawn - drawn0) = drawn := by omega
      unfold Go.Sort.grow World.drewN
      simp only
      rw [← hh, e]
end Go.Proofs.YtpfaihnmonfkhaaGreatDoorSq.Zk
