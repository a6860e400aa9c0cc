/- Rows whose elements lead to what is lent, handed to calls and back; rows of which some elements are left. Conditions: as each theorem states them. -/
import Derived.Test.YtecgbhfgkkpmhabGreatZkQ
namespace Go.Proofs.YtecgbhfgkkpmhabGreat.Zk
set_option linter.unusedVariables false
set_option linter.unusedSimpArgs false
open Go Go.RowKit Go.IntWalk
theorem olds_refl (w : World) : Olds w w [] := fun w' hf k cs e fz h hs => by
  have hlt : k < w.heap.size := by
    rcases Nat.lt_or_ge k w.heap.size with h' | h'
    · exact h'
    · rw [Array.getElem?_eq_none h'] at h; cases h
  rw [hf.block k hlt (by simp)]
  exact h
section hideO
variable {w0 w wo : World} {X : List Nat} {M : List Chunk}
theorem Mem.hideO (Ms : List Chunk) (h : Mem w0 X w (Ms ++ M)) (ho : Olds wo w0 X) : ∃ F, Hold w Ms F ∧ F.Nodup ∧ (∀ b ∈ F, b < w.heap.size) ∧ Olds wo w F ∧ (∀ w' Ms', Mem w F w' Ms' → Mem w0 X w' (Ms' ++ M)) := by
  obtain ⟨G, h1, h2, h3⟩ := h.hold
  obtain ⟨F, K, rfl, h4, h5⟩ := Hold.split h1
  obtain ⟨n1, n2, n3⟩ := List.nodup_append.1 h2
  have hX : ∀ b ∈ F, b < w0.heap.size → b ∈ X := fun b hb hlt => by
    rcases (h3 b (List.mem_append_left _ hb)).2 with h' | h'
    · omega
    · exact h'
  have hKF : ∀ b ∈ K, b ∉ F := fun b hb hf => n3 b hf b hb rfl
  refine ⟨F, h4, n1, fun b hb => (h3 b (List.mem_append_left _ hb)).1, fun w' hf => ho w' (h.fr.trans hf hX), fun w' Ms' k => ?_⟩
  obtain ⟨G', k1, k2, k3⟩ := k.hold
  refine ⟨h.fr.trans k.fr hX, G' ++ K, k1.append (h5.st fun b hb => k.fr.block b (h3 b (List.mem_append_right _ hb)).1 (hKF b hb)), ?_, ?_⟩
  · rw [List.nodup_append]
    refine ⟨k2, n2, fun a ha b hb e => ?_⟩
    subst e
    rcases (k3 a ha).2 with h' | h'
    · have := (h3 a (List.mem_append_right _ hb)).1
      omega
    · exact hKF a hb h'
  · intro b hb
    rcases List.mem_append.1 hb with hb | hb
    · refine ⟨(k3 b hb).1, ?_⟩
      rcases (k3 b hb).2 with h' | h'
      · have := h.fr.size
        exact .inl (by omega)
      · exact (h3 b (List.mem_append_left _ h')).2
    · exact ⟨Nat.lt_of_lt_of_le (h3 b (List.mem_append_right _ hb)).1 k.fr.size, (h3 b (List.mem_append_right _ hb)).2⟩
end hideO
section lent2
variable {α : Type}
theorem RdS.lentOf {w0 w : World} {d : Kd α} {h1 : ∀ x cs, d.R w0 x cs → ∀ u ∈ cs, u.oneCell' = true} {v : Value} {xs : List α} (h : RdS d w0 v xs) (hk : ∀ p v, w0.cell? p = some v → w.cell? p = some v) : RdS (Kd.lent w0 d h1) w v xs := by
  obtain ⟨A, c, hv, hc, h⟩ := h
  refine ⟨A, c, hv, hc, ?_⟩
  rcases h with h | ⟨b, o, hA, h⟩
  · exact .inl h
  · exact .inr ⟨b, o, hA, fun i hi => by obtain ⟨cs, h1, h2⟩ := h i hi; exact ⟨cs, h1, h2.keep hk⟩⟩
end lent2
section kept
variable {α β : Type} {enc : β → List Value}
theorem plain_elems {sz : Nat} {hl : ∀ x, (enc x).length = sz} {h1 : ∀ x, ∀ u ∈ enc x, u.oneCell' = true} {w : World} : ∀ hs : List β, Elems (Kd.plain sz enc hl h1) w (hs.flatMap enc) hs []
  | [] => .nil
  | x :: hs => by
    rw [List.flatMap_cons]
    exact .cons (f := []) (fs := []) ⟨rfl, rfl⟩ (plain_elems hs)
theorem elems_plain {sz : Nat} {hl : ∀ x, (enc x).length = sz} {h1 : ∀ x, ∀ u ∈ enc x, u.oneCell' = true} {w : World} {cs : List Value} {hs : List β} {fs : List Nat} (h : Elems (Kd.plain sz enc hl h1) w cs hs fs) : cs = hs.flatMap enc ∧ fs = [] := by
  induction h with
  | nil => exact ⟨rfl, rfl⟩
  | cons ho _ ih =>
    obtain ⟨rfl, rfl⟩ := ho
    obtain ⟨rfl, rfl⟩ := ih
    exact ⟨by rw [List.flatMap_cons], rfl⟩
theorem filter_flat {γ : Type} (p : γ → Bool) (f : γ → List Nat) : ∀ l : List γ, ((l.filter p).flatMap f).Sublist (l.flatMap f)
  | [] => .refl _
  | x :: l => by
    rw [List.filter_cons, List.flatMap_cons]
    split
    · rw [List.flatMap_cons]; exact List.Sublist.append (.refl _) (filter_flat p f l)
    · exact (filter_flat p f l).trans (List.sublist_append_right _ _)
theorem kept_own {d : Kd α} {T : TypeId} {sz : Nat} (hsz : d.sz = sz) {hl : ∀ x, (enc x).length = sz} {h1 : ∀ x, ∀ u ∈ enc x, u.oneCell' = true} {R : β → α → Prop} (hOR : ∀ w x c f, d.O w x c f → ∃ s, enc s = c ∧ R s x) {p : α → Bool} {ph : β → Bool} (hp : ∀ s x, R s x → ph s = p x)
    {w wo : World} {X : List Nat} {v : Value} {xs : List α} (hwo : Olds wo w X) (hX : Hold w [own d T v xs] X) (hXn : X.Nodup) (hXl : ∀ b ∈ X, b < w.heap.size) :
    ∃ (hs : List β) (b : List Nat), hs.length = xs.length ∧ Hold w [own (Kd.plain sz enc hl h1) T v hs] b ∧ b.Nodup ∧ (∀ k ∈ b, k < w.heap.size) ∧ Olds wo w b ∧
      ∀ w' v', Mem w b w' [own (Kd.plain sz enc hl h1) T v' (hs.filter ph)] → Mem w X w' [own d T v' (xs.filter p)] := by
  subst hsz
  cases hX with
  | @cons _ _ f F hc hm =>
  cases hm
  obtain ⟨cells, b, fs, hrow, rfl, hel⟩ := hc
  obtain ⟨t, t1, t2, t3, t4⟩ := elems_trip hOR hel
  have hlen : t.length = xs.length := by rw [← t1, List.length_map]
  have hin : ∀ k ∈ b, k ∈ b ++ fs ++ [] := fun k hk => by simp [hk]
  have hin2 : ∀ k ∈ fs, k ∈ b ++ fs ++ [] := fun k hk => by simp [hk]
  obtain ⟨n1, n2, n3⟩ := List.nodup_append.1 (show (b ++ fs).Nodup by simpa using hXn)
  have ecs : cells = (t.map (·.1)).flatMap enc := by rw [← t2, List.flatMap_map]
  have hmono : ∀ w', Fr w b w' → Fr w (b ++ fs ++ []) w' := fun w' k => ⟨k.os, k.tape, k.output, k.size, k.drawn, fun q hq hn => k.block q hq fun hb => hn (hin q hb)⟩
  refine ⟨t.map (·.1), b, by rw [List.length_map, hlen], ?_, n1, fun k hk => hXl k (hin k hk), fun w' k => hwo w' (hmono w' k), fun w' v' k => ?_⟩
  · have h5 : OwS (Kd.plain d.sz enc hl h1) T w v (t.map (·.1)) b := ⟨cells, b, [], by rw [List.length_map, hlen]; exact hrow, by simp, ecs ▸ plain_elems _⟩
    have h6 : Hold w [own (Kd.plain d.sz enc hl h1) T v (t.map (·.1))] (b ++ []) := .cons h5 .nil
    rwa [List.append_nil] at h6
  · obtain ⟨G, g1, g2, g3⟩ := k.hold
    cases g1 with
    | @cons _ _ f' F' hc' hm' =>
    cases hm'
    obtain ⟨cells', b', fs', hrow', rfl, hel'⟩ := hc'
    obtain ⟨e1, rfl⟩ := elems_plain hel'
    have e2 : (t.map (·.1)).filter ph = (t.filter fun q => ph q.1).map (·.1) := by rw [List.filter_map]; rfl
    have e3 : xs.filter p = (t.filter fun q => ph q.1).map (·.2.1) := by
      rw [← t1, List.filter_map]
      congr 1
      exact List.filter_congr fun q hq => (hp _ _ (t4 q hq).2).symm
    have hsub : ((t.filter fun q => ph q.1).flatMap (·.2.2)).Sublist fs := by rw [← t3]; exact filter_flat _ _ _
    have hblk : ∀ q ∈ fs, w'.heap[q]? = w.heap[q]? := fun q hq => k.fr.block q (hXl q (hin2 q hq)) fun hb => n3 q hb q hq rfl
    have hel2 : Elems d w' ((t.filter fun q => ph q.1).flatMap (fun q => enc q.1)) ((t.filter fun q => ph q.1).map (·.2.1)) ((t.filter fun q => ph q.1).flatMap (·.2.2)) :=
      (trip_elems _ (fun q hq => (t4 q (List.mem_filter.1 hq).1).1)).st fun q hq => hblk q (hsub.subset hq)
    rw [e2] at hrow' e1
    rw [List.length_map] at hrow'
    have hb' : ∀ q ∈ b', q < w'.heap.size ∧ (w.heap.size ≤ q ∨ q ∈ b) := fun q hq => g3 q (by simp [hq])
    refine ⟨hmono w' k.fr, b' ++ (t.filter fun q => ph q.1).flatMap (·.2.2) ++ [], .cons ⟨_, b', _, ?_, rfl, e3 ▸ hel2⟩ .nil, ?_, fun q hq => ?_⟩
    · rw [e3, List.length_map]
      have e4 : (t.filter fun q => ph q.1).flatMap (fun q => enc q.1) = cells' := by rw [e1, List.flatMap_map]
      rw [e4]
      exact hrow'
    · rw [List.append_nil, List.nodup_append]
      refine ⟨by have := g2; simp at this; exact this, hsub.nodup n2, fun a ha c hc e => ?_⟩
      subst e
      have h7 := hsub.subset hc
      rcases (hb' a ha).2 with h8 | h8
      · have := hXl a (hin2 a h7); omega
      · exact n3 a h8 a h7 rfl
    · simp only [List.append_nil, List.mem_append] at hq
      rcases hq with hq | hq
      · refine ⟨(hb' q hq).1, ?_⟩
        rcases (hb' q hq).2 with h8 | h8
        · exact .inl h8
        · exact .inr (hin q h8)
      · have h7 := hsub.subset hq
        exact ⟨Nat.lt_of_lt_of_le (hXl q (hin2 q h7)) k.fr.size, .inr (hin2 q h7)⟩
end kept
section fro
variable {P : Program} {ρ : Env} {w w0 : World} {X : List Nat} {M : List Chunk} {o : Oper} {α β : Type}
def fro (d : Kd α) (v : Value) (xs : List α) : Chunk := ⟨fun w f => ∀ w', (∀ b ∈ f, w'.heap[b]? = w.heap[b]?) → RdS d w' v xs, fun h hk w' hw => h w' fun b hb => (hw b hb).trans (hk b hb)⟩
theorem Mem.fro {d : Kd α} {T : TypeId} {v : Value} {xs : List α} (h : Mem w0 X w (own d T v xs :: M)) : Mem w0 X w (fro d v xs :: M) := h.conv fun f hf w' hw => OwS.rd (T := T) (f := f) (OwS.st hf hw)
end fro
end Go.Proofs.YtecgbhfgkkpmhabGreat.Zk
