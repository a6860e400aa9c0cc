/- The shelf's contracts for the calculus: a table in memory, worlds that have grown. No condition. -/
import Derived.Test.YtpfaihnmonfkhaaGreatDoorShelf
import Derived.Test.YtpfaihnmonfkhaaGreatDoorZkD
import Derived.Lib.AppendIntMem
namespace Go.Proofs.YtpfaihnmonfkhaaGreatDoor.Zk
open Go Go.RowKit Go.Sort
abbrev Tab (w : World) : Prop := Lib.TabIs Tryz.prog w "internal/strconv.uint64pow10" .u64 Lib.pow10Tab
theorem nodr {p : Prop} (h : DR) : p := False.elim h
theorem mem_grow (w : World) (k : Nat) (os : Array Obj) : Mem w [] (grow (w.drewN k) os) [] := by
  refine ⟨⟨rfl, rfl, rfl, ?_, fun _ => Nat.le_add_right _ _, fun b hb _ => ?_⟩, [], .nil, List.nodup_nil, by simp⟩
  · show w.heap.size ≤ (w.heap ++ os).size
    simp
  · show (w.heap ++ os)[b]? = w.heap[b]?
    rw [Array.getElem?_append_left hb]
theorem Mem.tab {w0 w : World} {M : List Chunk} (h : Mem w0 [] w M) (t : Tab w0) : Tab w := Lib.tabBelow_of_tabIs t w h.below
end Go.Proofs.YtpfaihnmonfkhaaGreatDoor.Zk
