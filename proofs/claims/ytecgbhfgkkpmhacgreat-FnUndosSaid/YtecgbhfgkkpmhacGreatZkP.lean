/- Texts in the calculus: strings cut, errors that are nil or not, the variables of the library's own that the shelf's contracts read. No condition. -/
import Derived.Test.YtecgbhfgkkpmhacGreatZkD
import Derived.Lib.SmallJoins
import Derived.Stop.LaidErr
import Derived.SizedLaws
import Derived.Handed
import Derived.HandedShaped
namespace Go.Proofs.YtecgbhfgkkpmhacGreat.Zk
open Go Go.RowKit Go.Sort
section
variable {P : Program} {ρ : Env} {w : World} {o : Oper} {T : TypeId} {x y z : Operand} {s : ByteArray} {i j : Int} {k k' : IntKind}
end
def strNums (s : ByteArray) : List Int := s.data.toList.map fun b => (b.toNat : Int)
def brow (e : TypeId) (v : Value) (xs : List Int) : Chunk := ⟨fun w f => ∃ g c cur fz, v = .slice (some ⟨g, 0, none⟩) xs.length c ∧ w.heap[g]? = some (.cells cur e fz) ∧ cur.size ≤ fz.1 ∧ xs.length ≤ cur.size ∧ xs.length ≤ c ∧ cur.toList.take xs.length = xs.map (fun x => Value.int .u8 x) ∧ f = [g],
  fun ⟨g, c, cur, fz, h1, h2, h3, h4, h5, h6, h7⟩ hk => ⟨g, c, cur, fz, h1, by subst h7; rw [hk g (by simp)]; exact h2, h3, h4, h5, h6, h7⟩⟩
section
variable {P : Program} {ρ : Env} {w w0 : World} {X : List Nat} {M : List Chunk} {o : Oper}
theorem Mem.brow_rd {hl : ∀ x : Int, [Value.int .u8 x].length = 1} {h1 : ∀ x : Int, ∀ u ∈ [Value.int .u8 x], u.oneCell' = true} {e : TypeId} {v : Value} {xs : List Int} (h : Mem w0 X w M) (j : Nat) (hj : M[j]? = some (brow e v xs)) : RdS (Kd.plain 1 (fun x => [Value.int .u8 x]) hl h1) w v xs := by
  obtain ⟨f, ⟨g, c, cur, fz, rfl, h2, h3, h4, h5, h6, h7⟩, _⟩ := h.get j hj
  refine ⟨_, c, rfl, h5, ?_⟩
  by_cases he : xs = []
  · exact .inl he
  · refine .inr ⟨g, 0, rfl, fun i hi => ⟨_, rfl, fun q u hu => ?_⟩⟩
    have hq : q = 0 := by
      have := (List.getElem?_eq_some_iff.1 hu).1
      simp at this; exact this
    subst hq
    have hu' : Value.int .u8 xs[i] = u := by simpa using hu
    subst hu'
    show w.cell? ⟨g, 0 + i * 1 + 0, none⟩ = _
    rw [show 0 + i * 1 + 0 = i by omega, cell_of_row w g i cur e fz h2]
    have e1 : (cur.toList.take xs.length)[i]? = some (Value.int .u8 xs[i]) := by rw [h6, List.getElem?_map, List.getElem?_eq_getElem hi]; rfl
    rw [List.getElem?_take, if_pos hi] at e1
    simpa using e1
theorem does_sbytes {src dst e : TypeId} {x : Operand} {s : ByteArray} (h : o.op = .convert src dst x) (hx : ev ρ x = some (.string s)) (hs : P.underlying src = some .string) (hd : P.underlying dst = some (.slice e)) (he : P.underlying e = some (.int .u8))
    (hm : Mem w0 X w M) : Does P ρ w o fun v w' => Mem w0 X w' (brow e v (strNums s) :: M) := fun f hf => by
  have hr := run_bytes_of_string w src dst e s hs hd he
  have hle := grownCap_ge w s.size 0 e
  refine .inl ⟨.slice (some ⟨w.heap.size, 0, none⟩) s.size (grownCap w s.size 0 e), w.drew.alloc (.cells (bytesRow s (grownCap w s.size 0 e)) e ((bytesRow s (grownCap w s.size 0 e)).size, (bytesRow s (grownCap w s.size 0 e)).size + 1)), by simp [execOp, h, hf.ev _ _ hx, hr], (hm.grow (fr_drew w)).alloc _ ?_⟩
  have e0 : s.data.size = s.size := rfl
  have hlen : (strNums s).length = s.size := by unfold strNums; rw [List.length_map, Array.length_toList]; rfl
  have hcs : (bytesRow s (grownCap w s.size 0 e)).size = grownCap w s.size 0 e := by unfold bytesRow; rw [Array.size_append, Array.size_map, Array.size_replicate]; omega
  refine ⟨w.heap.size, grownCap w s.size 0 e, bytesRow s (grownCap w s.size 0 e), _, by rw [hlen], by simpa using heap_alloc_new w.drew _, Nat.le_refl _, by rw [hlen, hcs]; exact hle, by rw [hlen]; exact hle, ?_, rfl⟩
  rw [hlen]
  unfold bytesRow strNums
  have e1 : s.size = s.data.toList.length := by rw [Array.length_toList]; rfl
  simp only [Array.toList_append, Array.toList_map, Array.toList_replicate]
  rw [List.take_append_of_le_length (by rw [List.length_map]; omega), List.take_of_length_le (by rw [List.length_map]; omega), List.map_map]
  rfl
theorem does_setB {T' e i : Nat} {p x : Operand} {v : Value} {y : Int} {xs : List Int} {off : Nat} (h : o.op = .store T' p x) (hp : ev ρ p = some (.pointer (some ⟨sb v, off, none⟩))) (hoff : off = so v + i * 1) (hx : ev ρ x = some (.int .u8 y))
    (hs : tsz P T' = some 1) (hi : i < xs.length) (hm : Mem w0 X w (brow e v xs :: M)) : DoesS P ρ w o fun w' => Mem w0 X w' (brow e v (xs.set i y) :: M) := fun f hf => by
  subst hoff
  obtain ⟨F, ⟨g, c, cur, fz, rfl, h2, h3, h4, h5, h6, rfl⟩, hnd, hlt, hclose⟩ := hm.take
  have hic : i < cur.size := by omega
  have hcell : w.cell? ⟨g, i, none⟩ = some cur[i] := by simp [World.cell?, h2, hic]
  have hfro : w.frozen? ⟨g, i, none⟩ = false := by
    obtain ⟨lo, hi'⟩ := fz
    simp only [World.frozen?, h2, Bool.and_eq_false_iff, decide_eq_false_iff_not]
    left
    simp only at h3
    omega
  have hst : (store (⟨g, i, none⟩ : Addr) (.int .u8 y)).run P w = .ok () (w.setRow g (cur.setIfInBounds i (.int .u8 y))) := by
    rw [run_store P w _ _ _ rfl, hcell]
    simp [hfro, setCell_eq_setRow w g i cur e fz _ h2]
  have hst2 : (storeCells (⟨g, i, none⟩ : Addr) [.int .u8 y] 0).run P w = .ok () (w.setRow g (cur.setIfInBounds i (.int .u8 y))) := by
    have hadd : (⟨g, i, none⟩ : Addr).add 0 = ⟨g, i, none⟩ := by unfold Addr.add; split <;> simp_all
    simp [storeCells, hadd, hst]
  refine ⟨w.setRow g (cur.setIfInBounds i (.int .u8 y)), ?_, hclose _ (brow e _ (xs.set i y)) [g] ⟨g, c, _, fz, by rw [List.length_set], setRow_heap w g _ _ _ _ h2, by simpa using h3, by simpa using h4, by simpa using h5, ?_, rfl⟩ hnd (fun b hb => ?_) (setRow_fr w g _)⟩
  · have hp' : ev ρ p = some (.pointer (some ⟨g, i, none⟩)) := by rw [hp]; simp [sb, so]
    have hc1 : (Value.int IntKind.u8 y).cells = #[.int .u8 y] := rfl
    simp [execOp, h, hf.ev _ _ hp', hf.ev _ _ hx, Instr.storeAt, Instr.sureAddr, storeVar, run_sizeOf hs]
    rw [hc1, if_pos (show (#[Value.int IntKind.u8 y] : Array Value).size = 1 from rfl), show (#[Value.int .u8 y] : Array Value).toList = [.int .u8 y] from rfl, hst2]
    rfl
  · rw [List.length_set]
    have e1 : (cur.setIfInBounds i (.int .u8 y)).toList = cur.toList.set i (.int .u8 y) := by simp
    rw [e1, List.take_set, h6, List.map_set]
  · rw [setRow_size]; exact ⟨hlt b hb, .inl hb⟩
end
end Go.Proofs.YtecgbhfgkkpmhacGreat.Zk
