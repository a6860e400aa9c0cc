/- Rows whose elements lead to what is lent, handed to calls and back; rows of which some elements are left. Conditions: as each theorem states them. -/
import Derived.Test.YtecgbhfgkkpmhacGreatZkQ
namespace Go.Proofs.YtecgbhfgkkpmhacGreat.Zk
set_option linter.unusedVariables false
set_option linter.unusedSimpArgs false
open Go Go.RowKit Go.IntWalk
def cur8 {T0 T1 T2 T3 T4 T5 T6 T7 γ : Type} (g : T0 → T1 → T2 → T3 → T4 → T5 → T6 → T7 → γ) (s : T0 × T1 × T2 × T3 × T4 × T5 × T6 × T7) : γ := g s.1 s.2.1 s.2.2.1 s.2.2.2.1 s.2.2.2.2.1 s.2.2.2.2.2.1 s.2.2.2.2.2.2.1 s.2.2.2.2.2.2.2
theorem cur8_mk {T0 T1 T2 T3 T4 T5 T6 T7 γ : Type} {g : T0 → T1 → T2 → T3 → T4 → T5 → T6 → T7 → γ} {a0 : T0} {a1 : T1} {a2 : T2} {a3 : T3} {a4 : T4} {a5 : T5} {a6 : T6} {a7 : T7} {r : γ} (h : cur8 g (a0, a1, a2, a3, a4, a5, a6, a7) = r) : g a0 a1 a2 a3 a4 a5 a6 a7 = r := h
theorem olds_refl (w : World) : Olds w w [] := fun w' hf k cs e fz h hs => by
  have hlt : k < w.heap.size := by
    rcases Nat.lt_or_ge k w.heap.size with h' | h'
    · exact h'
    · rw [Array.getElem?_eq_none h'] at h; cases h
  rw [hf.block k hlt (by simp)]
  exact h
section hideO
variable {w0 w wo : World} {X : List Nat} {M : List Chunk}
theorem Mem.hideO (Ms : List Chunk) (h : Mem w0 X w (Ms ++ M)) (ho : Olds wo w0 X) : ∃ F, Hold w Ms F ∧ F.Nodup ∧ (∀ b ∈ F, b < w.heap.size) ∧ Olds wo w F ∧ (∀ w' Ms', Mem w F w' Ms' → Mem w0 X w' (Ms' ++ M)) := by
  obtain ⟨G, h1, h2, h3⟩ := h.hold
  obtain ⟨F, K, rfl, h4, h5⟩ := Hold.split h1
  obtain ⟨n1, n2, n3⟩ := List.nodup_append.1 h2
  have hX : ∀ b ∈ F, b < w0.heap.size → b ∈ X := fun b hb hlt => by
    rcases (h3 b (List.mem_append_left _ hb)).2 with h' | h'
    · omega
    · exact h'
  have hKF : ∀ b ∈ K, b ∉ F := fun b hb hf => n3 b hf b hb rfl
  refine ⟨F, h4, n1, fun b hb => (h3 b (List.mem_append_left _ hb)).1, fun w' hf => ho w' (h.fr.trans hf hX), fun w' Ms' k => ?_⟩
  obtain ⟨G', k1, k2, k3⟩ := k.hold
  refine ⟨h.fr.trans k.fr hX, G' ++ K, k1.append (h5.st fun b hb => k.fr.block b (h3 b (List.mem_append_right _ hb)).1 (hKF b hb)), ?_, ?_⟩
  · rw [List.nodup_append]
    refine ⟨k2, n2, fun a ha b hb e => ?_⟩
    subst e
    rcases (k3 a ha).2 with h' | h'
    · have := (h3 a (List.mem_append_right _ hb)).1
      omega
    · exact hKF a hb h'
  · intro b hb
    rcases List.mem_append.1 hb with hb | hb
    · refine ⟨(k3 b hb).1, ?_⟩
      rcases (k3 b hb).2 with h' | h'
      · have := h.fr.size
        exact .inl (by omega)
      · exact (h3 b (List.mem_append_left _ h')).2
    · exact ⟨Nat.lt_of_lt_of_le (h3 b (List.mem_append_right _ hb)).1 k.fr.size, (h3 b (List.mem_append_right _ hb)).2⟩
end hideO
section lent2
variable {α : Type}
theorem RdS.lentOf {w0 w : World} {d : Kd α} {h1 : ∀ x cs, d.R w0 x cs → ∀ u ∈ cs, u.oneCell' = true} {v : Value} {xs : List α} (h : RdS d w0 v xs) (hk : ∀ p v, w0.cell? p = some v → w.cell? p = some v) : RdS (Kd.lent w0 d h1) w v xs := by
  obtain ⟨A, c, hv, hc, h⟩ := h
  refine ⟨A, c, hv, hc, ?_⟩
  rcases h with h | ⟨b, o, hA, h⟩
  · exact .inl h
  · exact .inr ⟨b, o, hA, fun i hi => by obtain ⟨cs, h1, h2⟩ := h i hi; exact ⟨cs, h1, h2.keep hk⟩⟩
end lent2
section kept
variable {α β : Type} {enc : β → List Value}
theorem plain_elems {sz : Nat} {hl : ∀ x, (enc x).length = sz} {h1 : ∀ x, ∀ u ∈ enc x, u.oneCell' = true} {w : World} : ∀ hs : List β, Elems (Kd.plain sz enc hl h1) w (hs.flatMap enc) hs []
  | [] => .nil
  | x :: hs => by
    rw [List.flatMap_cons]
    exact .cons (f := []) (fs := []) ⟨rfl, rfl⟩ (plain_elems hs)
theorem elems_plain {sz : Nat} {hl : ∀ x, (enc x).length = sz} {h1 : ∀ x, ∀ u ∈ enc x, u.oneCell' = true} {w : World} {cs : List Value} {hs : List β} {fs : List Nat} (h : Elems (Kd.plain sz enc hl h1) w cs hs fs) : cs = hs.flatMap enc ∧ fs = [] := by
  induction h with
  | nil => exact ⟨rfl, rfl⟩
  | cons ho _ ih =>
    obtain ⟨rfl, rfl⟩ := ho
    obtain ⟨rfl, rfl⟩ := ih
    exact ⟨by rw [List.flatMap_cons], rfl⟩
theorem filter_flat {γ : Type} (p : γ → Bool) (f : γ → List Nat) : ∀ l : List γ, ((l.filter p).flatMap f).Sublist (l.flatMap f)
  | [] => .refl _
  | x :: l => by
    rw [List.filter_cons, List.flatMap_cons]
    split
    · rw [List.flatMap_cons]; exact List.Sublist.append (.refl _) (filter_flat p f l)
    · exact (filter_flat p f l).trans (List.sublist_append_right _ _)
theorem kept_own {d : Kd α} {T : TypeId} {sz : Nat} (hsz : d.sz = sz) {hl : ∀ x, (enc x).length = sz} {h1 : ∀ x, ∀ u ∈ enc x, u.oneCell' = true} {R : β → α → Prop} (hOR : ∀ w x c f, d.O w x c f → ∃ s, enc s = c ∧ R s x) {p : α → Bool} {ph : β → Bool} (hp : ∀ s x, R s x → ph s = p x)
    {w wo : World} {X : List Nat} {v : Value} {xs : List α} (hwo : Olds wo w X) (hX : Hold w [own d T v xs] X) (hXn : X.Nodup) (hXl : ∀ b ∈ X, b < w.heap.size) :
    ∃ (hs : List β) (b : List Nat), hs.length = xs.length ∧ Hold w [own (Kd.plain sz enc hl h1) T v hs] b ∧ b.Nodup ∧ (∀ k ∈ b, k < w.heap.size) ∧ Olds wo w b ∧
      ∀ w' v', Mem w b w' [own (Kd.plain sz enc hl h1) T v' (hs.filter ph)] → Mem w X w' [own d T v' (xs.filter p)] := by
  subst hsz
  cases hX with
  | @cons _ _ f F hc hm =>
  cases hm
  obtain ⟨cells, b, fs, hrow, rfl, hel⟩ := hc
  obtain ⟨t, t1, t2, t3, t4⟩ := elems_trip hOR hel
  have hlen : t.length = xs.length := by rw [← t1, List.length_map]
  have hin : ∀ k ∈ b, k ∈ b ++ fs ++ [] := fun k hk => by simp [hk]
  have hin2 : ∀ k ∈ fs, k ∈ b ++ fs ++ [] := fun k hk => by simp [hk]
  obtain ⟨n1, n2, n3⟩ := List.nodup_append.1 (show (b ++ fs).Nodup by simpa using hXn)
  have ecs : cells = (t.map (·.1)).flatMap enc := by rw [← t2, List.flatMap_map]
  have hmono : ∀ w', Fr w b w' → Fr w (b ++ fs ++ []) w' := fun w' k => ⟨k.os, k.tape, k.output, k.size, k.drawn, fun q hq hn => k.block q hq fun hb => hn (hin q hb)⟩
  refine ⟨t.map (·.1), b, by rw [List.length_map, hlen], ?_, n1, fun k hk => hXl k (hin k hk), fun w' k => hwo w' (hmono w' k), fun w' v' k => ?_⟩
  · have h5 : OwS (Kd.plain d.sz enc hl h1) T w v (t.map (·.1)) b := ⟨cells, b, [], by rw [List.length_map, hlen]; exact hrow, by simp, ecs ▸ plain_elems _⟩
    have h6 : Hold w [own (Kd.plain d.sz enc hl h1) T v (t.map (·.1))] (b ++ []) := .cons h5 .nil
    rwa [List.append_nil] at h6
  · obtain ⟨G, g1, g2, g3⟩ := k.hold
    cases g1 with
    | @cons _ _ f' F' hc' hm' =>
    cases hm'
    obtain ⟨cells', b', fs', hrow', rfl, hel'⟩ := hc'
    obtain ⟨e1, rfl⟩ := elems_plain hel'
    have e2 : (t.map (·.1)).filter ph = (t.filter fun q => ph q.1).map (·.1) := by rw [List.filter_map]; rfl
    have e3 : xs.filter p = (t.filter fun q => ph q.1).map (·.2.1) := by
      rw [← t1, List.filter_map]
      congr 1
      exact List.filter_congr fun q hq => (hp _ _ (t4 q hq).2).symm
    have hsub : ((t.filter fun q => ph q.1).flatMap (·.2.2)).Sublist fs := by rw [← t3]; exact filter_flat _ _ _
    have hblk : ∀ q ∈ fs, w'.heap[q]? = w.heap[q]? := fun q hq => k.fr.block q (hXl q (hin2 q hq)) fun hb => n3 q hb q hq rfl
    have hel2 : Elems d w' ((t.filter fun q => ph q.1).flatMap (fun q => enc q.1)) ((t.filter fun q => ph q.1).map (·.2.1)) ((t.filter fun q => ph q.1).flatMap (·.2.2)) :=
      (trip_elems _ (fun q hq => (t4 q (List.mem_filter.1 hq).1).1)).st fun q hq => hblk q (hsub.subset hq)
    rw [e2] at hrow' e1
    rw [List.length_map] at hrow'
    have hb' : ∀ q ∈ b', q < w'.heap.size ∧ (w.heap.size ≤ q ∨ q ∈ b) := fun q hq => g3 q (by simp [hq])
    refine ⟨hmono w' k.fr, b' ++ (t.filter fun q => ph q.1).flatMap (·.2.2) ++ [], .cons ⟨_, b', _, ?_, rfl, e3 ▸ hel2⟩ .nil, ?_, fun q hq => ?_⟩
    · rw [e3, List.length_map]
      have e4 : (t.filter fun q => ph q.1).flatMap (fun q => enc q.1) = cells' := by rw [e1, List.flatMap_map]
      rw [e4]
      exact hrow'
    · rw [List.append_nil, List.nodup_append]
      refine ⟨by have := g2; simp at this; exact this, hsub.nodup n2, fun a ha c hc e => ?_⟩
      subst e
      have h7 := hsub.subset hc
      rcases (hb' a ha).2 with h8 | h8
      · have := hXl a (hin2 a h7); omega
      · exact n3 a h8 a h7 rfl
    · simp only [List.append_nil, List.mem_append] at hq
      rcases hq with hq | hq
      · refine ⟨(hb' q hq).1, ?_⟩
        rcases (hb' q hq).2 with h8 | h8
        · exact .inl h8
        · exact .inr (hin q h8)
      · have h7 := hsub.subset hq
        exact ⟨Nat.lt_of_lt_of_le (hXl q (hin2 q h7)) k.fr.size, .inr (hin2 q h7)⟩
end kept
section fro
variable {P : Program} {ρ : Env} {w w0 : World} {X : List Nat} {M : List Chunk} {o : Oper} {α β : Type}
def fro (d : Kd α) (v : Value) (xs : List α) : Chunk := ⟨fun w f => ∀ w', (∀ b ∈ f, w'.heap[b]? = w.heap[b]?) → RdS d w' v xs, fun h hk w' hw => h w' fun b hb => (hw b hb).trans (hk b hb)⟩
theorem Mem.fro {d : Kd α} {T : TypeId} {v : Value} {xs : List α} (h : Mem w0 X w (own d T v xs :: M)) : Mem w0 X w (fro d v xs :: M) := h.conv fun f hf w' hw => OwS.rd (T := T) (f := f) (OwS.st hf hw)
theorem Mem.fro_rd {d : Kd α} {v : Value} {xs : List α} (h : Mem w0 X w M) (j : Nat) (hj : M[j]? = some (Zk.fro d v xs)) : RdS d w v xs := by
  obtain ⟨f, hb, _⟩ := h.get j hj
  exact hb w fun _ _ => rfl
theorem Elems.lend {d : Kd α} {h1 : ∀ x cs, d.R w x cs → ∀ u ∈ cs, u.oneCell' = true} {cs : List Value} {xs : List α} {fs : List Nat} (h : Elems d w cs xs fs) : Elems (Kd.lent w d h1) w cs xs [] := by
  induction h with
  | nil => exact .nil
  | cons ho _ ih => exact .cons (f := []) (fs := []) ⟨d.OR ho, rfl⟩ ih
theorem does_litRaw {T e len : Nat} {parts : Array (Nat × Operand)} {vs : List (Nat × Value)} {cs : List Value} (h : o.op = .buildSlice T len parts) (hv : evp ρ parts.toList = some vs)
    (hr : ∀ w, (Instr.buildSlice T len vs.toArray).run P w = .ok (.slice (some ⟨w.heap.size, 0, none⟩) len len) (w.alloc (.cells cs.toArray e))) (hm : Mem w0 X w M) : Does P ρ w o fun v w' => ∃ g, v = .slice (some ⟨g, 0, none⟩) len len ∧ Mem w0 X w' (box g e cs :: M) := fun f hf =>
  .inl ⟨_, _, by simp only [execOp, h, hf.parr hv, Sem.run_bind, hr, Result.andThen_ok]; rfl, w.heap.size, rfl, hm.alloc (C := box w.heap.size e cs) (.cells cs.toArray e) ⟨rfl, by simpa using heap_alloc_new w _⟩⟩
theorem does_appSelf [Inhabited α] {sz : Nat} {enc : α → Value → List Value} {inner : α → List β} {d : Kd β} {T T' e by_ g : Nat} {hl : ∀ x v, (enc x v).length = sz} {h1 : ∀ x A n c, ∀ u ∈ enc x (.slice A n c), u.oneCell' = true} {s x : Operand} {v u z : Value} {xs : List α} {i : Int} {a : α}
    (h : o.op = .call { callee := .builtin .append, args := #[s, x], argTypes := #[T, T] }) (hv : ev ρ s = some v) (hx : ev ρ x = some (.slice (some ⟨g, 0, none⟩) 1 1)) (hu : P.underlying T = some (.slice e)) (hs : tsz P e = some sz) (hb : tby P e = some by_) (hz : tzero P e = some z) (hzs : z.cells.size = sz) (hb0 : Nat.blt 0 by_ = true)
    (hbig : (xs.length + 1) * by_ ≤ 140737488355328) (hi : idxOk i xs.length = true) (ha : gt xs i = a)
    (hm : Mem w0 X w (box g e (enc a u) :: own d T' u (inner a) :: hole (Kd.with1 sz enc inner d T' hl h1) (enc a) e v xs i.toNat u :: M)) :
    Does P ρ w o fun v' w' => Mem w0 X w' (fro (Kd.with1 sz enc inner d T' hl h1) v' (xs ++ [a]) :: M) := fun f hf => by
  have hb0' : 0 < by_ := by simpa [Nat.blt_eq] using hb0
  have hle : xs.length + 1 ≤ 140737488355328 := Nat.le_trans (Nat.le_mul_of_pos_right _ hb0') hbig
  obtain ⟨F, ⟨_, fh, rfl, ⟨fb, f0, rfl, ⟨rfl, hg⟩, hO⟩, ⟨b, f1, f2, c1, c2, hr, rfl, hle2, hlc, hi', hE3, hE4⟩⟩, hnd, hlt, hclose⟩ := hm.star.star.take
  have hO' : OwS d T' w u (inner a) f0 := hO
  have hone : ∀ q ∈ enc a u, q.oneCell' = true := by
    obtain ⟨A, c, rfl, _⟩ := hO'.rd
    exact h1 _ _ _ _
  have hcl : (c1 ++ enc a u ++ c2).length = xs.length * sz := by
    have e3 : c1.length = i.toNat * sz := hlc
    have e4 : c2.length = (xs.drop (i.toNat + 1)).length * sz := hE4.length
    rw [List.length_append, List.length_append, e3, e4, hl, List.length_drop]
    have e5 : xs.length = i.toNat + 1 + (xs.length - (i.toNat + 1)) := by omega
    conv => rhs; rw [e5, Nat.add_mul, Nat.add_mul, Nat.one_mul]
  have hA : ∀ j q, (enc a u)[j]? = some q → w.cell? ((⟨g, 0, none⟩ : Addr).add j) = some q := fun j q hq => by
    rw [add0, cell_of_row w g j _ e (0, 0) hg]
    simpa using hq
  obtain ⟨v', w', f', hrun, hrow, hfr, hf', hnd'⟩ := run_app (P := P) (w := w) (T := T) (ty := o.type) (e := e) (m := 1) (c := 1) (A := some ⟨g, 0, none⟩) (news := enc a u) hu hs hb hz hzs hr hcl (by rw [hl, Nat.one_mul]) (.inr ⟨_, rfl, hA⟩) hone hbig (by simp only [maxLen]; omega) (fun k hk => hlt k (by simp [hk]))
  have hn0 : (b ++ (f1 ++ f2)).Nodup := (List.nodup_append.1 hnd).2.1
  obtain ⟨n1, n2, n3⟩ := List.nodup_append.1 hn0
  have hd0 := (List.nodup_append.1 hnd).2.2
  have hkk : ∀ k ∈ f1 ++ (f0 ++ f2), w'.heap[k]? = w.heap[k]? := fun k hk => by
    simp only [List.mem_append] at hk
    rcases hk with h | h | h
    · exact hfr.block k (hlt k (by simp [h])) fun hb' => n3 k hb' k (by simp [h]) rfl
    · exact hfr.block k (hlt k (by simp [h])) fun hb' => hd0 k (by simp [h]) k (by simp [hb']) rfl
    · exact hfr.block k (hlt k (by simp [h])) fun hb' => n3 k hb' k (by simp [h]) rfl
  have hxs : xs.take i.toNat ++ (a :: xs.drop (i.toNat + 1)) = xs := by
    have e6 : xs[i.toNat]'(idx_nat hi) = a := by rw [← ha, gt_eq (idx_nat hi)]
    rw [← e6, ← List.drop_eq_getElem_cons (idx_nat hi), List.take_append_drop]
  refine .inl ⟨v', w', ?_, hclose w' (fro (Kd.with1 sz enc inner d T' hl h1) v' (xs ++ [a])) (f' ++ (f1 ++ (f0 ++ f2))) (fun w2 hw2 => ?_) ?_ ?_ ?_⟩
  · simp only [execOp, h, resolve, invoke, builtin, Sem.run_bind, Sem.run_pure, Result.andThen_ok, List.map_toArray, List.map_cons, List.map_nil, hf.ev _ _ hv, hf.ev _ _ hx, hrun]
  · have hk2 : ∀ k ∈ f1 ++ (f0 ++ f2), w2.heap[k]? = w.heap[k]? := fun k hk => (hw2 k (List.mem_append_right _ hk)).trans (hkk k hk)
    have e1 : Elems (Kd.with1 sz enc inner d T' hl h1) w2 (enc a u ++ []) [a] (f0 ++ []) := .cons ⟨u, rfl, hO'.st fun k hk => hk2 k (by simp [hk])⟩ .nil
    have e2 : Elems (Kd.with1 sz enc inner d T' hl h1) w2 c1 (xs.take i.toNat) f1 := hE3.st fun k hk => hk2 k (by simp [hk])
    have e3 : Elems (Kd.with1 sz enc inner d T' hl h1) w2 c2 (xs.drop (i.toNat + 1)) f2 := hE4.st fun k hk => hk2 k (by simp [hk])
    have e4 := (((e2.append e1).append e3).append e1).lend (h1 := with1_one)
    rw [List.append_nil, List.append_assoc (xs.take _), List.singleton_append, hxs] at e4
    have e5 : OwS (Kd.lent w2 (Kd.with1 sz enc inner d T' hl h1) with1_one) e w2 v' (xs ++ [a]) f' := ⟨_, f', [], by rw [List.length_append]; exact hrow.st fun k hk => hw2 k (List.mem_append_left _ hk), by simp, e4⟩
    exact e5.rd.unlent fun p v h => h
  · have hs3 : (f1 ++ (f0 ++ f2)).Nodup := by
      have hp : (f0 ++ (f1 ++ f2)).Perm (f1 ++ (f0 ++ f2)) := by
        rw [List.perm_iff_count]; intro q; simp only [List.count_append]; omega
      refine hp.nodup_iff.1 (List.nodup_append.2 ⟨?_, n2, fun q hq r hr e => ?_⟩)
      · have := (List.nodup_append.1 hnd).1
        exact (List.nodup_append.1 this).2.1
      · exact hd0 q (by simp [hq]) r (by simp only [List.mem_append] at hr ⊢; exact .inr hr) e
    refine List.nodup_append.2 ⟨hnd', hs3, fun q hq r hr e => ?_⟩
    subst e
    rcases (hf' q hq).2 with h' | h'
    · simp only [List.mem_append] at hr
      rcases hr with h | h | h
      · exact n3 q h' q (by simp [h]) rfl
      · exact hd0 q (by simp [h]) q (by simp [h']) rfl
      · exact n3 q h' q (by simp [h]) rfl
    · have : q < w.heap.size := hlt q (by simp only [List.mem_append] at hr ⊢; rcases hr with h | h | h <;> simp [h])
      omega
  · intro k hk
    rcases List.mem_append.1 hk with hk | hk
    · refine ⟨(hf' k hk).1, ?_⟩
      rcases (hf' k hk).2 with h' | h'
      · exact .inl (by simp [h'])
      · exact .inr h'
    · have hin : k ∈ [g] ++ f0 ++ (b ++ (f1 ++ f2)) := by simp only [List.mem_append] at hk ⊢; rcases hk with h | h | h <;> simp [h]
      exact ⟨Nat.lt_of_lt_of_le (hlt k hin) hfr.size, .inl hin⟩
  · exact ⟨hfr.os, hfr.tape, hfr.output, hfr.size, hfr.drawn, fun k hk hn => hfr.block k hk fun hb' => hn (by simp [hb'])⟩
end fro
end Go.Proofs.YtecgbhfgkkpmhacGreat.Zk
