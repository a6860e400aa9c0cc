/- Rows whose elements lead to what is lent, handed to calls and back; rows of which some elements are left. Conditions: as each theorem states them. -/
import Derived.Test.YtecgbhfgkkpmhaaZkQ
namespace Go.Proofs.Ytecgbhfgkkpmhaa.Zk
set_option linter.unusedVariables false
set_option linter.unusedSimpArgs false
open Go Go.RowKit Go.IntWalk
section hideO
variable {w0 w wo : World} {X : List Nat} {M : List Chunk}
end hideO
section lent2
variable {α : Type}
end lent2
section kept
variable {α β : Type} {enc : β → List Value}
end kept
section fro
variable {P : Program} {ρ : Env} {w w0 : World} {X : List Nat} {M : List Chunk} {o : Oper} {α β : Type}
def fro (d : Kd α) (v : Value) (xs : List α) : Chunk := ⟨fun w f => ∀ w', (∀ b ∈ f, w'.heap[b]? = w.heap[b]?) → RdS d w' v xs, fun h hk w' hw => h w' fun b hb => (hw b hb).trans (hk b hb)⟩
theorem Mem.fro {d : Kd α} {T : TypeId} {v : Value} {xs : List α} (h : Mem w0 X w (own d T v xs :: M)) : Mem w0 X w (fro d v xs :: M) := h.conv fun f hf w' hw => OwS.rd (T := T) (f := f) (OwS.st hf hw)
theorem Mem.fro_rd {d : Kd α} {v : Value} {xs : List α} (h : Mem w0 X w M) (j : Nat) (hj : M[j]? = some (Zk.fro d v xs)) : RdS d w v xs := by
  obtain ⟨f, hb, _⟩ := h.get j hj
  exact hb w fun _ _ => rfl
theorem Elems.lend {d : Kd α} {h1 : ∀ x cs, d.R w x cs → ∀ u ∈ cs, u.oneCell' = true} {cs : List Value} {xs : List α} {fs : List Nat} (h : Elems d w cs xs fs) : Elems (Kd.lent w d h1) w cs xs [] := by
  induction h with
  | nil => exact .nil
  | cons ho _ ih => exact .cons (f := []) (fs := []) ⟨d.OR ho, rfl⟩ ih
theorem does_litRaw {T e len : Nat} {parts : Array (Nat × Operand)} {vs : List (Nat × Value)} {cs : List Value} (h : o.op = .buildSlice T len parts) (hv : evp ρ parts.toList = some vs)
    (hr : ∀ w, (Instr.buildSlice T len vs.toArray).run P w = .ok (.slice (some ⟨w.heap.size, 0, none⟩) len len) (w.alloc (.cells cs.toArray e))) (hm : Mem w0 X w M) : Does P ρ w o fun v w' => ∃ g, v = .slice (some ⟨g, 0, none⟩) len len ∧ Mem w0 X w' (box g e cs :: M) := fun f hf =>
  .inl ⟨_, _, by simp only [execOp, h, hf.parr hv, Sem.run_bind, hr, Result.andThen_ok]; rfl, w.heap.size, rfl, hm.alloc (C := box w.heap.size e cs) (.cells cs.toArray e) ⟨rfl, by simpa using heap_alloc_new w _⟩⟩
theorem does_appSelf [Inhabited α] {sz : Nat} {enc : α → Value → List Value} {inner : α → List β} {d : Kd β} {T T' e by_ g : Nat} {hl : ∀ x v, (enc x v).length = sz} {h1 : ∀ x A n c, ∀ u ∈ enc x (.slice A n c), u.oneCell' = true} {s x : Operand} {v u z : Value} {xs : List α} {i : Int} {a : α}
    (h : o.op = .call { callee := .builtin .append, args := #[s, x], argTypes := #[T, T] }) (hv : ev ρ s = some v) (hx : ev ρ x = some (.slice (some ⟨g, 0, none⟩) 1 1)) (hu : P.underlying T = some (.slice e)) (hs : tsz P e = some sz) (hb : tby P e = some by_) (hz : tzero P e = some z) (hzs : z.cells.size = sz) (hb0 : Nat.blt 0 by_ = true)
    (hbig : (xs.length + 1) * by_ ≤ 140737488355328) (hi : idxOk i xs.length = true) (ha : gt xs i = a)
    (hm : Mem w0 X w (box g e (enc a u) :: own d T' u (inner a) :: hole (Kd.with1 sz enc inner d T' hl h1) (enc a) e v xs i.toNat u :: M)) :
    Does P ρ w o fun v' w' => Mem w0 X w' (fro (Kd.with1 sz enc inner d T' hl h1) v' (xs ++ [a]) :: M) := fun f hf => by
  have hb0' : 0 < by_ := by simpa [Nat.blt_eq] using hb0
  have hle : xs.length + 1 ≤ 140737488355328 := Nat.le_trans (Nat.le_mul_of_pos_right _ hb0') hbig
  obtain ⟨F, ⟨_, fh, rfl, ⟨fb, f0, rfl, ⟨rfl, hg⟩, hO⟩, ⟨b, f1, f2, c1, c2, hr, rfl, hle2, hlc, hi', hE3, hE4⟩⟩, hnd, hlt, hclose⟩ := hm.star.star.take
  have hO' : OwS d T' w u (inner a) f0 := hO
  have hone : ∀ q ∈ enc a u, q.oneCell' = true := by
    obtain ⟨A, c, rfl, _⟩ := hO'.rd
    exact h1 _ _ _ _
  have hcl : (c1 ++ enc a u ++ c2).length = xs.length * sz := by
    have e3 : c1.length = i.toNat * sz := hlc
    have e4 : c2.length = (xs.drop (i.toNat + 1)).length * sz := hE4.length
    rw [List.length_append, List.length_append, e3, e4, hl, List.length_drop]
    have e5 : xs.length = i.toNat + 1 + (xs.length - (i.toNat + 1)) := by omega
    conv => rhs; rw [e5, Nat.add_mul, Nat.add_mul, Nat.one_mul]
  have hA : ∀ j q, (enc a u)[j]? = some q → w.cell? ((⟨g, 0, none⟩ : Addr).add j) = some q := fun j q hq => by
    rw [add0, cell_of_row w g j _ e (0, 0) hg]
    simpa using hq
  obtain ⟨v', w', f', hrun, hrow, hfr, hf', hnd'⟩ := run_app (P := P) (w := w) (T := T) (ty := o.type) (e := e) (m := 1) (c := 1) (A := some ⟨g, 0, none⟩) (news := enc a u) hu hs hb hz hzs hr hcl (by rw [hl, Nat.one_mul]) (.inr ⟨_, rfl, hA⟩) hone hbig (by simp only [maxLen]; omega) (fun k hk => hlt k (by simp [hk]))
  have hn0 : (b ++ (f1 ++ f2)).Nodup := (List.nodup_append.1 hnd).2.1
  obtain ⟨n1, n2, n3⟩ := List.nodup_append.1 hn0
  have hd0 := (List.nodup_append.1 hnd).2.2
  have hkk : ∀ k ∈ f1 ++ (f0 ++ f2), w'.heap[k]? = w.heap[k]? := fun k hk => by
    simp only [List.mem_append] at hk
    rcases hk with h | h | h
    · exact hfr.block k (hlt k (by simp [h])) fun hb' => n3 k hb' k (by simp [h]) rfl
    · exact hfr.block k (hlt k (by simp [h])) fun hb' => hd0 k (by simp [h]) k (by simp [hb']) rfl
    · exact hfr.block k (hlt k (by simp [h])) fun hb' => n3 k hb' k (by simp [h]) rfl
  have hxs : xs.take i.toNat ++ (a :: xs.drop (i.toNat + 1)) = xs := by
    have e6 : xs[i.toNat]'(idx_nat hi) = a := by rw [← ha, gt_eq (idx_nat hi)]
    rw [← e6, ← List.drop_eq_getElem_cons (idx_nat hi), List.take_append_drop]
  refine .inl ⟨v', w', ?_, hclose w' (fro (Kd.with1 sz enc inner d T' hl h1) v' (xs ++ [a])) (f' ++ (f1 ++ (f0 ++ f2))) (fun w2 hw2 => ?_) ?_ ?_ ?_⟩
  · simp only [execOp, h, resolve, invoke, builtin, Sem.run_bind, Sem.run_pure, Result.andThen_ok, List.map_toArray, List.map_cons, List.map_nil, hf.ev _ _ hv, hf.ev _ _ hx, hrun]
  · have hk2 : ∀ k ∈ f1 ++ (f0 ++ f2), w2.heap[k]? = w.heap[k]? := fun k hk => (hw2 k (List.mem_append_right _ hk)).trans (hkk k hk)
    have e1 : Elems (Kd.with1 sz enc inner d T' hl h1) w2 (enc a u ++ []) [a] (f0 ++ []) := .cons ⟨u, rfl, hO'.st fun k hk => hk2 k (by simp [hk])⟩ .nil
    have e2 : Elems (Kd.with1 sz enc inner d T' hl h1) w2 c1 (xs.take i.toNat) f1 := hE3.st fun k hk => hk2 k (by simp [hk])
    have e3 : Elems (Kd.with1 sz enc inner d T' hl h1) w2 c2 (xs.drop (i.toNat + 1)) f2 := hE4.st fun k hk => hk2 k (by simp [hk])
    have e4 := (((e2.append e1).append e3).append e1).lend (h1 := with1_one)
    rw [List.append_nil, List.append_assoc (xs.take _), List.singleton_append, hxs] at e4
    have e5 : OwS (Kd.lent w2 (Kd.with1 sz enc inner d T' hl h1) with1_one) e w2 v' (xs ++ [a]) f' := ⟨_, f', [], by rw [List.length_append]; exact hrow.st fun k hk => hw2 k (List.mem_append_left _ hk), by simp, e4⟩
    exact e5.rd.unlent fun p v h => h
  · have hs3 : (f1 ++ (f0 ++ f2)).Nodup := by
      have hp : (f0 ++ (f1 ++ f2)).Perm (f1 ++ (f0 ++ f2)) := by
        rw [List.perm_iff_count]; intro q; simp only [List.count_append]; omega
      refine hp.nodup_iff.1 (List.nodup_append.2 ⟨?_, n2, fun q hq r hr e => ?_⟩)
      · have := (List.nodup_append.1 hnd).1
        exact (List.nodup_append.1 this).2.1
      · exact hd0 q (by simp [hq]) r (by simp only [List.mem_append] at hr ⊢; exact .inr hr) e
    refine List.nodup_append.2 ⟨hnd', hs3, fun q hq r hr e => ?_⟩
    subst e
    rcases (hf' q hq).2 with h' | h'
    · simp only [List.mem_append] at hr
      rcases hr with h | h | h
      · exact n3 q h' q (by simp [h]) rfl
      · exact hd0 q (by simp [h]) q (by simp [h']) rfl
      · exact n3 q h' q (by simp [h]) rfl
    · have : q < w.heap.size := hlt q (by simp only [List.mem_append] at hr ⊢; rcases hr with h | h | h <;> simp [h])
      omega
  · intro k hk
    rcases List.mem_append.1 hk with hk | hk
    · refine ⟨(hf' k hk).1, ?_⟩
      rcases (hf' k hk).2 with h' | h'
      · exact .inl (by simp [h'])
      · exact .inr h'
    · have hin : k ∈ [g] ++ f0 ++ (b ++ (f1 ++ f2)) := by simp only [List.mem_append] at hk ⊢; rcases hk with h | h | h <;> simp [h]
      exact ⟨Nat.lt_of_lt_of_le (hlt k hin) hfr.size, .inl hin⟩
  · exact ⟨hfr.os, hfr.tape, hfr.output, hfr.size, hfr.drawn, fun k hk hn => hfr.block k hk fun hb' => hn (by simp [hb'])⟩
end fro
end Go.Proofs.Ytecgbhfgkkpmhaa.Zk
