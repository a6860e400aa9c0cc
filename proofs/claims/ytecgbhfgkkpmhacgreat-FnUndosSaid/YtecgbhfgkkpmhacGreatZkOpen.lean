/- Arguments as they are handed in, opened into plain data. Conditions: as each theorem states them. -/
import Derived.Test.YtecgbhfgkkpmhacGreatZk
import Derived.Deep.Slices
import Derived.ProofKit
import Derived.Carry
/-! ### Arguments opened -/
namespace Go.Proofs.YtecgbhfgkkpmhacGreat.Zk
set_option linter.unusedVariables false
set_option linter.unusedSimpArgs false
open Go Go.RowKit Go.Deep
section opens
variable {H : Type} {enc : TypeId × Value → H} {P : Program} {w : World} {base : Nat} {spare : Nat → Bool} {held : Bool} {α : Type}
theorem cell_spot {w : World} {a : Addr} {v : Value} (h : w.cell? a = some v) : a.spot = none := by
  unfold World.cell? at h
  split at h
  · split at h
    · cases h
    · rename_i h2; cases hs : a.spot <;> simp_all
  · cases h
theorem cells_len {a : Addr} {n : Nat} {cs : List Value} (h : w.cells? base a n = some cs) : cs.length = n ∧ ∀ j v, cs[j]? = some v → w.cell? (a.add j) = some v := by
  unfold World.cells? at h
  split at h
  · have key : ∀ (f : Nat → Option Value) (l : List Nat) (cs : List Value), l.mapM f = some cs → cs.length = l.length ∧ ∀ (j : Nat) v, cs[j]? = some v → ∃ i : Nat, l[j]? = some i ∧ f i = some v := by
      intro f l
      induction l with
      | nil => intro cs h; simp at h; subst h; simp
      | cons i l ih =>
        intro cs h
        rw [List.mapM_cons] at h
        cases h1 : f i with
        | none => simp [h1] at h
        | some u =>
          cases h2 : l.mapM f with
          | none => simp [h1, h2] at h
          | some us =>
            simp [h1, h2] at h
            subst h
            obtain ⟨h3, h4⟩ := ih us h2
            refine ⟨by simp [h3], fun j v hj => ?_⟩
            cases j with
            | zero => simp at hj; subst hj; exact ⟨i, rfl, h1⟩
            | succ j => obtain ⟨q, h5, h6⟩ := h4 j v (by simpa using hj); exact ⟨q, by simpa using h5, h6⟩
    obtain ⟨h1, h2⟩ := key _ _ _ h
    refine ⟨by simpa using h1, fun j v hj => ?_⟩
    obtain ⟨i, h3, h4⟩ := h2 j v hj
    have : i = j := by
      rw [List.getElem?_range] at h3
      · exact (Option.some.inj h3).symm
      · have := (List.getElem?_eq_some_iff.1 h3).1; simpa using this
    subst this
    exact h4
  · cases h
def Lok (ok : α → Prop) (xs : List α) : Prop := xs.length ≤ maxLen ∧ ∀ x ∈ xs, ok x
theorem open_rds {t e : TypeId} {d : Kd α} {ok : α → Prop} {fuel : Nat} {cs : List Value} {x : DataW H × List MemPlace} (ht : P.underlying t = some (.slice e)) (hs : P.cellsOf e = d.sz) (h0 : Nat.blt 0 d.sz = true)
    (he : ∀ {fuel : Nat} {cs : List Value} {x : DataW H × List MemPlace}, DataW.trod enc P w base spare held fuel e cs = some x → ∃ y, d.R w y cs ∧ ok y)
    (h : DataW.trod enc P w base spare held fuel t cs = some x) : ∃ (ys : List α) (v : Value), cs = [v] ∧ RdS d w v ys ∧ Lok ok ys := by
  have h0' : 0 < d.sz := by simpa [Nat.blt_eq] using h0
  rcases open_slice ht h with ⟨rfl, rfl⟩ | ⟨a, len, cap, m, n, D, Pl, rfl, hb, hl, hm, hmm, rfl, hel⟩
  · exact ⟨[], _, rfl, RdS.nil d w none 0, by simp [maxLen], by simp⟩
  · have hlm : len ≤ m := by rw [hmm]; split <;> omega
    have key : ∀ k, k ≤ len → ∃ ys : List α, ys.length = k ∧ (∀ y ∈ ys, ok y) ∧ ∀ i (hi : i < ys.length), ∃ cs, d.R w ys[i] cs ∧ cs.length = d.sz ∧ ∀ j v, cs[j]? = some v → w.cell? ((a.add (i * d.sz)).add j) = some v := by
      intro k
      induction k with
      | zero => exact fun _ => ⟨[], rfl, by simp, fun i hi => by simp at hi⟩
      | succ k ih =>
        intro hk
        obtain ⟨ys, h1, h2, h3⟩ := ih (by omega)
        obtain ⟨cs', h4, h5⟩ := hel k (by omega)
        obtain ⟨y, h6, h7⟩ := he h5
        obtain ⟨h8, h9⟩ := cells_len h4
        rw [hs] at h9
        refine ⟨ys ++ [y], by simp [h1], ?_, fun i hi => ?_⟩
        · intro q hq
          rcases List.mem_append.1 hq with hq | hq
          · exact h2 q hq
          · simp at hq; subst hq; exact h7
        · by_cases hik : i < ys.length
          · obtain ⟨cs, g1, g2, g3⟩ := h3 i hik
            exact ⟨cs, by rw [List.getElem_append_left hik]; exact g1, g2, g3⟩
          · have hik' : i = ys.length := by simp at hi; omega
            subst hik'
            refine ⟨cs', by simpa using h6, by rw [h8, hs], ?_⟩
            rw [h1]
            exact h9
    obtain ⟨ys, h1, h2, h3⟩ := key len (Nat.le_refl _)
    refine ⟨ys, _, rfl, ⟨_, cap, by rw [h1], by omega, ?_⟩, by omega, h2⟩
    by_cases hz : ys = []
    · exact .inl hz
    · right
      have hpos : 0 < ys.length := List.length_pos_iff.2 hz
      obtain ⟨cs, g1, g2, g3⟩ := h3 0 hpos
      have hsp : a.spot = none := by
        have hc0 : cs[0]? = some (cs[0]'(by omega)) := List.getElem?_eq_getElem _
        have := cell_spot (g3 0 _ hc0)
        simpa [Addr.add] using this
      obtain ⟨b, o, s⟩ := a
      simp at hsp
      subst hsp
      refine ⟨b, o, rfl, fun i hi => ?_⟩
      obtain ⟨cs, g1, g2, g3⟩ := h3 i hi
      refine ⟨cs, g1, fun j v hj => ?_⟩
      have := g3 j v hj
      have e : ((⟨b, o, none⟩ : Addr).add (i * d.sz)).add j = ⟨b, o + i * d.sz + j, none⟩ := by
        unfold Addr.add
        split <;> split <;> simp_all
      rw [e] at this
      exact this
theorem trodAll_below {W W' : World} (hl : laidOutB P = true) (hb : Below W.heap.size W W') : ∀ {ts : List TypeId} {vs : List Value} {ds : List (DataW H)} {ps : List MemPlace}, (ts.all fun t => P.readableRec t && decide (t < P.types.size)) = true →
    DataW.TrodAll enc P W 0 (fun _ => true) true ts vs ds ps → (∀ x ∈ ps, x.block < W.heap.size) → DataW.TrodAll enc P W' 0 (fun b => decide (b < W.heap.size)) true ts vs ds ps
  | [], [], [], ps, _, h, _ => h
  | t :: ts, v :: vs, d :: ds, ps, ha, h, hlt => by
    obtain ⟨p, q, h1, h2, rfl⟩ := h
    simp only [List.all_cons, Bool.and_eq_true, decide_eq_true_eq] at ha
    exact ⟨p, q, Below.trod hl ha.1.1 ha.1.2 h1 hb fun x hx => hlt x (List.mem_append_left _ hx), trodAll_below hl hb ha.2 h2 (fun x hx => hlt x (List.mem_append_right _ hx)), rfl⟩
  | [], _ :: _, _, _, _, h, _ => by simp [DataW.TrodAll] at h
  | [], [], _ :: _, _, _, h, _ => by simp [DataW.TrodAll] at h
  | _ :: _, [], _, _, _, h, _ => by simp [DataW.TrodAll] at h
  | _ :: _, _ :: _, [], _, _, h, _ => by simp [DataW.TrodAll] at h
abbrev iOk (k : IntKind) (n : Int) : Prop := (Lit.int k n).wf = true
end opens
end Go.Proofs.YtecgbhfgkkpmhacGreat.Zk
