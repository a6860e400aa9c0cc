/- A row of one's own, sorted by slices.SortFunc: out of the shelf's contract. Conditions: as each theorem states them. -/
import Derived.Test.YtecgbhfgkkpmhacGreatZkD
import Derived.Shelf.SlSortCmp.WholeK
import Derived.Shelf.SlSortCmp.NoneTotal
namespace Go.Proofs.YtecgbhfgkkpmhacGreat.Zk
open Go Go.RowKit Go.IntWalk Go.Sort Go.Proofs
set_option linter.unusedVariables false
set_option linter.unusedSimpArgs false
section
variable {α β : Type} {d : Kd α} {enc : β → List Value}
theorem elems_trip {w : World} {R : β → α → Prop} (hOR : ∀ w x c f, d.O w x c f → ∃ s, enc s = c ∧ R s x) {cells : List Value} {xs : List α} {fs : List Nat} (h : Elems d w cells xs fs) :
    ∃ t : List (β × α × List Nat), t.map (·.2.1) = xs ∧ t.flatMap (fun p => enc p.1) = cells ∧ t.flatMap (·.2.2) = fs ∧ ∀ p ∈ t, d.O w p.2.1 (enc p.1) p.2.2 ∧ R p.1 p.2.1 := by
  induction h with
  | nil => exact ⟨[], rfl, rfl, rfl, by simp⟩
  | @cons c cs x xs f fs ho _ ih =>
    obtain ⟨t, h1, h2, h3, h4⟩ := ih
    obtain ⟨s, e, r⟩ := hOR _ _ _ _ ho
    subst e
    refine ⟨(s, x, f) :: t, by simp [h1], by simp [h2], by simp [h3], fun p hp => ?_⟩
    rcases List.mem_cons.1 hp with rfl | hp
    · exact ⟨ho, r⟩
    · exact h4 p hp
theorem trip_elems {w : World} : ∀ t : List (β × α × List Nat), (∀ p ∈ t, d.O w p.2.1 (enc p.1) p.2.2) → Elems d w (t.flatMap (fun p => enc p.1)) (t.map (·.2.1)) (t.flatMap (·.2.2))
  | [], _ => .nil
  | p :: t, h => by
    simp only [List.flatMap_cons, List.map_cons]
    exact .cons (h p (by simp)) (trip_elems t fun q hq => h q (by simp [hq]))
theorem perm_lift {γ δ : Type} (f : γ → δ) : ∀ {l l' : List δ}, l'.Perm l → ∀ t : List γ, t.map f = l → ∃ t' : List γ, t'.Perm t ∧ t'.map f = l' := by
  intro l l' h
  have h' := h.symm
  clear h
  induction h' with
  | nil => intro t ht; exact ⟨t, .refl _, ht⟩
  | @cons x l1 l2 _ ih =>
    intro t ht
    cases t with
    | nil => simp at ht
    | cons a t =>
      simp only [List.map_cons, List.cons.injEq] at ht
      obtain ⟨t', h1, h2⟩ := ih t ht.2
      exact ⟨a :: t', h1.cons a, by simp [ht.1, h2]⟩
  | swap x y l =>
    intro t ht
    match t, ht with
    | a :: b :: t, ht =>
      simp only [List.map_cons, List.cons.injEq] at ht
      exact ⟨b :: a :: t, List.Perm.swap a b t, by simp [ht.1, ht.2.1, ht.2.2]⟩
  | trans _ _ ih1 ih2 =>
    intro t ht
    obtain ⟨t1, h1, h2⟩ := ih1 t ht
    obtain ⟨t2, h3, h4⟩ := ih2 t1 h2
    exact ⟨t2, h3.trans h1, h4⟩
theorem flat_get [Inhabited β] {k : Nat} (hk : ∀ x, (enc x).length = k) : ∀ (ss : List β) (j : Nat), j < ss.length * k → (ss.flatMap enc)[j]? = some ((enc ss.toArray[j / k]!)[j % k]!)
  | [], j, h => by simp at h
  | a :: ss, j, h => by
    have hk0 : 0 < k := by
      rcases Nat.eq_zero_or_pos k with e | e
      · subst e; simp at h
      · exact e
    rw [List.flatMap_cons]
    by_cases hj : j < k
    · rw [List.getElem?_append_left (by rw [hk]; exact hj), Nat.div_eq_of_lt hj, Nat.mod_eq_of_lt hj, List.getElem?_eq_getElem (by rw [hk]; exact hj)]
      congr 1
      simp [getElem!_pos, hk, hj]
    · have e1 : (a :: ss).length * k = ss.length * k + k := by rw [List.length_cons, Nat.succ_mul]
      rw [List.getElem?_append_right (by rw [hk]; omega), hk, flat_get hk ss (j - k) (by omega)]
      have e2 : j / k = (j - k) / k + 1 := by
        have : j = (j - k) + k := by omega
        conv => lhs; rw [this]
        rw [Nat.add_div_right _ hk0]
      have e3 : (j - k) % k = j % k := by
        have : j = (j - k) + k := by omega
        conv => rhs; rw [this]
        rw [Nat.add_mod_right]
      rw [e2, e3]
      congr 1
      simp
theorem flat_len {k : Nat} (hk : ∀ x, (enc x).length = k) : ∀ ss : List β, (ss.flatMap enc).length = ss.length * k
  | [] => by simp
  | a :: ss => by rw [List.flatMap_cons, List.length_append, hk, flat_len hk ss, List.length_cons, Nat.succ_mul, Nat.add_comm]
theorem flatK_list [Inhabited β] {k : Nat} (hk : ∀ x, (enc x).length = k) (ss : List β) : (flatK enc k ss.toArray).toList = ss.flatMap enc := by
  apply List.ext_getElem?
  intro j
  by_cases h : j < ss.length * k
  · rw [flat_get hk ss j h]
    have hs : j < (flatK enc k ss.toArray).toList.length := by rw [Array.length_toList, size_flatK]; simpa using h
    have := get_flatK enc k ss.toArray j (by simpa using h)
    rw [List.getElem?_eq_getElem hs]
    congr 1
    rw [getElem!_pos _ j (by rw [size_flatK]; simpa using h)] at this
    rw [← this]; simp
  · rw [List.getElem?_eq_none (by rw [Array.length_toList, size_flatK]; simpa using Nat.not_lt.1 h), List.getElem?_eq_none (by rw [flat_len hk]; omega)]
theorem sort_own [Inhabited β] {P : Program} {fn g : Nat} {T : TypeId} (hk : ∀ x, (enc x).length = d.sz) (h1 : ∀ x, ∀ v ∈ enc x, v.oneCell' = true) (hz : 0 < d.sz) {cf : β → β → Int} (R : β → α → Prop) (hOR : ∀ w x c f, d.O w x c f → ∃ s, enc s = c ∧ R s x)
    (S : ∀ (blk cap : Nat) (dd : Array β) (w : World), CmpLays P g #[] enc d.sz cf blk 0 dd.size w → HoldsK enc d.sz w blk 0 dd → blk < w.heap.size → dd.size < 4611686018427387904 →
      Calls P fn #[.slice (some ⟨blk, 0, none⟩) dd.size cap, .func (.func g) #[] #[]] w fun e w' => e = .returned (.tuple #[]) ∧ ∃ d' n os, PermIn 0 dd.size dd d' ∧ SortedIn (ltOf cf) 0 dd.size d' ∧ w' = sortWorldK enc d.sz w blk 0 n d' os)
    (S0 : ∀ (p : Option Addr) (cap : Nat) (w : World), Calls P fn #[.slice p 0 cap, .func (.func g) #[] #[]] w fun e w' => e = .returned (.tuple #[]) ∧ w' = w)
    (hcmp : ∀ (W : World) (x y : β), Calls P g #[.agg (enc x).toArray, .agg (enc y).toArray] W fun e w' => e = .returned (.int .i64 (cf x y)) ∧ ∃ q os', w' = grow (W.drewN q) os')
    {w : World} {X : List Nat} {v : Value} {xs : List α} (hX : Hold w [own d T v xs] X) (hXn : X.Nodup) (hXl : ∀ b ∈ X, b < w.heap.size) (hn : xs.length ≤ 1000000000) :
    Calls P fn #[v, .func (.func g) #[] #[]] w fun e w' => e = .returned (.tuple #[]) ∧ ∃ ys : List α, ys.Perm xs ∧ (∃ ps : List (β × α), ps.map (·.2) = ys ∧ (∀ p ∈ ps, R p.1 p.2) ∧ (ps.map (·.1)).Pairwise (fun a b => ltOf cf b a = false)) ∧ Mem w X w' [own d T v ys] := by
  have hX0 := hX
  cases hX with
  | @cons _ _ f F hc hm =>
  cases hm
  obtain ⟨cells, b, fs, hrow, rfl, hel⟩ := hc
  by_cases hx : xs = []
  · subst hx
    have hv : ∃ A c, v = .slice A 0 c := by
      rcases hrow with ⟨A, h, _⟩ | ⟨g0, c, cur, h, _⟩
      · exact ⟨A, 0, h⟩
      · exact ⟨_, c, h⟩
    obtain ⟨A, c, rfl⟩ := hv
    refine (S0 A c w).mono fun e w' ⟨he, hw⟩ => ⟨he, [], .refl _, ⟨[], rfl, by simp, by simp⟩, ?_⟩
    subst hw
    exact Mem.startX hX0 hXn hXl
  · obtain ⟨t, t1, t2, t3, t4⟩ := elems_trip hOR hel
    rcases hrow with ⟨A, _, h, _⟩ | ⟨g0, c, cur, rfl, h2, h3, h4, h5, h6, rfl⟩
    · exact absurd (List.length_eq_zero_iff.1 h) hx
    · have hlen : t.length = xs.length := by rw [← t1, List.length_map]
      have ht2 : (t.map (·.1)).flatMap enc = cells := by rw [← t2, List.flatMap_map]
      have hsz : (t.map (·.1)).toArray.size = xs.length := by simp [hlen]
      have hg0 : g0 < w.heap.size := hXl g0 (by simp)
      have hcl : cells.length = xs.length * d.sz := hel.length
      have hcs : xs.length * d.sz ≤ cur.size := by rw [h5]; exact Nat.mul_le_mul_right _ h3
      have hH : HoldsK enc d.sz w g0 0 (t.map (·.1)).toArray := by
        intro j hj
        rw [size_flatK, hsz] at hj
        have e1 : cells[j]? = some (flatK enc d.sz (t.map (·.1)).toArray)[j]! := by
          rw [← ht2, flat_get hk _ j (by rw [List.length_map, hlen]; exact hj), get_flatK _ _ _ _ (by rw [hsz]; exact hj)]
        rw [Nat.zero_add]
        refine ⟨?_, ?_⟩
        · rw [cell_of_row w g0 j cur T (0, 0) h2]
          rw [← h6, List.getElem?_take, if_pos hj] at e1
          simpa using e1
        · simp [World.frozen?, h2]
      have S1 := S g0 c (t.map (·.1)).toArray w (fun m os dk hdk x y => (hcmp _ x y).mono fun e w' ⟨he, hf⟩ => ⟨he, hf⟩) hH hg0 (by rw [hsz]; omega)
      rw [hsz] at S1
      refine S1.mono fun e w' ⟨he, d', n, os, hp, hs, hw⟩ => ⟨he, ?_⟩
      obtain ⟨hp1, _, hp2⟩ := hp
      have hd's : d'.size = xs.length := by rw [hp1, hsz]
      have hp3 : d'.toList.Perm (t.map (·.1)) := by
        have ex : ∀ (a : Array β), a.size = xs.length → a.extract 0 xs.length = a := fun a ha => by rw [← ha]; simp
        have e1 := ex d' hd's
        have e2 := ex _ hsz
        rw [e1, e2] at hp2
        simpa using hp2
      obtain ⟨t', q1, q2⟩ := perm_lift (·.1) hp3 t rfl
      have q4 : ∀ p ∈ t', d.O w p.2.1 (enc p.1) p.2.2 ∧ R p.1 p.2.1 := fun p hp => t4 p (q1.mem_iff.1 hp)
      have hfs : (t'.flatMap (·.2.2)).Perm fs := by rw [← t3]; exact q1.flatMap_right _
      obtain ⟨n1, n2, n3⟩ := List.nodup_append.1 (show ([g0] ++ fs).Nodup by simpa using hXn)
      have hl' : t'.length = xs.length := by rw [q1.length_eq, hlen]
      have hd2 : d' = (t'.map (·.1)).toArray := by rw [q2]
      -- the world behind
      have hblk : ∀ k, k < w.heap.size → k ≠ g0 → w'.heap[k]? = w.heap[k]? := fun k hk' hne => by
        subst hw
        show ((w.heap.modify g0 _) ++ os)[k]? = _
        rw [Array.getElem?_append_left (by simpa using hk'), Array.getElem?_modify, if_neg (Ne.symm hne)]
      have hg : w'.heap[g0]? = some (.cells (putCells id 0 (flatK enc d.sz d') cur) T (0, 0)) := by
        subst hw
        show ((w.heap.modify g0 _) ++ os)[g0]? = _
        rw [Array.getElem?_append_left (by simpa using hg0), Array.getElem?_modify, if_pos rfl]
        show Option.map _ (w.heap[g0]?) = _
        rw [h2]; rfl
      have hwsz : w.heap.size ≤ w'.heap.size := by subst hw; show _ ≤ ((w.heap.modify g0 _) ++ os).size; simp
      have hfr : Fr w ([g0] ++ fs ++ []) w' := by
        refine ⟨by subst hw; rfl, by subst hw; rfl, by subst hw; rfl, hwsz, fun _ => ?_, fun k hk' hn' => hblk k hk' (fun e => hn' (by simp [e]))⟩
        subst hw
        exact Nat.le_add_right _ _
      have hel2 : Elems d w' (t'.flatMap (fun p => enc p.1)) (t'.map (·.2.1)) (t'.flatMap (·.2.2)) := (trip_elems t' (fun p hp => (q4 p hp).1)).st fun b hb => by
        have hb' := hfs.mem_iff.1 hb
        exact hblk b (hXl b (by simp [hb'])) (fun e => n3 g0 (by simp) b hb' e.symm)
      refine ⟨t'.map (·.2.1), by rw [← t1]; exact q1.map _, ⟨t'.map (fun p => (p.1, p.2.1)), by simp, fun p hp => ?_, ?_⟩, hfr, [g0] ++ t'.flatMap (·.2.2) ++ [], .cons ⟨_, [g0], _, .inr ⟨g0, c, _, ?_, hg, ?_, h4, ?_, ?_, rfl⟩, rfl, hel2⟩ .nil, ?_, fun b hb => ?_⟩
      · obtain ⟨q, hq, rfl⟩ := List.mem_map.1 hp
        exact (q4 q hq).2
      · have e : (t'.map (fun p => (p.1, p.2.1))).map (·.1) = d'.toList := by rw [← q2]; simp [Function.comp_def]
        rw [e, List.pairwise_iff_getElem]
        intro i j hi hj hij
        have hi' : i < d'.size := by simpa using hi
        have hj' : j < d'.size := by simpa using hj
        have := hs i j (Nat.zero_le _) hij (by omega)
        rw [getElem!_pos d' j hj', getElem!_pos d' i hi'] at this
        simpa using this
      · simp [hl']
      · simp [hl']; exact h3
      · unfold putCells; simpa using h5
      · have ec : (t'.flatMap (fun p => enc p.1)) = (flatK enc d.sz d').toList := by rw [hd2, flatK_list hk, List.flatMap_map]
        rw [ec]
        have efs : (flatK enc d.sz d').size = xs.length * d.sz := by rw [size_flatK, hd's]
        apply List.ext_getElem?
        intro j
        simp only [List.length_map, hl']
        rw [List.getElem?_take]
        by_cases hj : j < xs.length * d.sz
        · rw [if_pos hj]
          unfold putCells
          have hjc : j < cur.size := by omega
          rw [Array.getElem?_toList, Array.getElem?_mapIdx, Array.getElem?_eq_getElem hjc, Option.map_some, if_pos ⟨Nat.zero_le _, by rw [efs]; omega⟩, Nat.sub_zero, Array.getElem?_toList, Array.getElem?_eq_getElem (by rw [efs]; exact hj), getElem!_pos _ j (by rw [efs]; exact hj)]
          rfl
        · rw [if_neg hj, List.getElem?_eq_none (by rw [Array.length_toList, efs]; omega)]
      · rw [List.append_nil, List.nodup_append]
        refine ⟨n1, hfs.nodup_iff.2 n2, fun a ha b hb e => n3 a ha b (hfs.mem_iff.1 hb) e⟩
      · have hb' : b ∈ [g0] ++ fs ++ [] := by
          simp only [List.append_nil, List.mem_append] at hb ⊢
          rcases hb with hb | hb
          · exact .inl hb
          · exact .inr (hfs.mem_iff.1 hb)
        exact ⟨Nat.lt_of_lt_of_le (hXl b hb') hwsz, .inr hb'⟩
end
end Go.Proofs.YtecgbhfgkkpmhacGreat.Zk
