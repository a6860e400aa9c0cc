/- The shelf's contracts for the calculus: a table in memory, worlds that have grown. No condition. -/
import Derived.Test.YtmaolhocmkkmjaaGreatDoorShelf
import Derived.Test.YtmaolhocmkkmjaaGreatDoorZkD
import Derived.Lib.AppendIntMem
namespace Go.Proofs.YtmaolhocmkkmjaaGreatDoor.Zk
open Go Go.RowKit Go.Sort
abbrev Tab (w : World) : Prop := Lib.TabIs Tryz.prog w "internal/strconv.uint64pow10" .u64 Lib.pow10Tab
theorem nodr {p : Prop} (h : DR) : p := False.elim h
theorem mem_grow (w : World) (k : Nat) (os : Array Obj) : Mem w [] (grow (w.drewN k) os) [] := by
  refine ⟨⟨rfl, rfl, rfl, ?_, fun _ => Nat.le_add_right _ _, fun b hb _ => ?_⟩, [], .nil, List.nodup_nil, by simp⟩
  · show w.heap.size ≤ (w.heap ++ os).size
    simp
  · show (w.heap ++ os)[b]? = w.heap[b]?
    rw [Array.getElem?_append_left hb]
theorem Mem.tab {w0 w : World} {M : List Chunk} (h : Mem w0 [] w M) (t : Tab w0) : Tab w := Lib.tabBelow_of_tabIs t w h.below
theorem Mem.tabo {wo w0 w : World} {X : List Nat} {M : List Chunk} (h : Mem w0 X w M) (ho : Olds wo w0 X) (t : Tab wo) : Tab w := by
  have key := ho w h.fr
  unfold Tab Lib.TabIs World.var? at *
  cases hg : Tryz.prog.globalNamed "internal/strconv.uint64pow10" with
  | none => simp [hg] at t
  | some g =>
    simp only [hg, Option.bind_some] at t ⊢
    cases ho : wo.heap[g]? with
    | none => simp [ho] at t
    | some ob =>
      cases ob with
      | cells cs e fz =>
        simp only [ho, Option.some.injEq] at t
        rw [key g cs e fz ho (by rw [t]; simp [Lib.pow10Tab])]
        exact congrArg some t
      | _ => simp [ho] at t
end Go.Proofs.YtmaolhocmkkmjaaGreatDoor.Zk
