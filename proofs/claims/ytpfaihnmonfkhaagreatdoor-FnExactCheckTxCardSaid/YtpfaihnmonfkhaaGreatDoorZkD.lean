/- Rows of one's own, cut and moved within. No condition. -/
import Derived.Test.YtpfaihnmonfkhaaGreatDoorZkX
namespace Go.Proofs.YtpfaihnmonfkhaaGreatDoor.Zk
set_option linter.unusedVariables false
set_option linter.unusedSimpArgs false
open Go Go.RowKit Go.IntWalk
section cuts
variable {P : Program} {ρ : Env} {w : World} {o : Oper} {T e sz : Nat} {x y z t : Operand} {v : Value} {i j m : Int} {k k' k'' : IntKind}
end cuts
section moves
variable {P : Program} {ρ : Env} {w w0 : World} {X : List Nat} {M : List Chunk} {o : Oper} {T e sz by_ : Nat} {s x : Operand} {v z : Value} {α : Type} {xs : List α}
end moves

section onto
variable {P : Program} {ρ : Env} {w w0 : World} {X : List Nat} {M : List Chunk} {o : Oper} {T e by_ : Nat} {s x : Operand} {z : Value} {α : Type} {xs : List α}
end onto

section short2
variable {P : Program} {ρ : Env} {w w0 : World} {X : List Nat} {M : List Chunk} {o : Oper} {T e : Nat} {x : Operand} {v z : Value} {α : Type} {xs : List α}
end short2
end Go.Proofs.YtpfaihnmonfkhaaGreatDoor.Zk
