/- slices.Insert at a row of one's own, of flat data: by its code. Conditions: as each theorem states them. -/
import Derived.Test.YtbbcabpnkdilgaaZkD
import Derived.Lib.AppendZerosOnto
import Derived.Lib.Overlaps
namespace Go.Proofs.Ytbbcabpnkdilgaa.Zk
set_option linter.unusedVariables false
set_option linter.unusedSimpArgs false
open Go Go.RowKit Go.IntWalk Go.Lib
/-- A row of one's own, by its cells. -/
def raw (T sz : Nat) (v : Value) (n : Nat) (cs : List Value) : Chunk := ⟨fun w f => RowC w T sz v n cs f, fun h hk => h.st hk⟩
section raws
variable {P : Program} {ρ : Env} {w w0 : World} {X : List Nat} {M : List Chunk} {o : Oper} {α : Type}
theorem Elems.flat {d : Kd α} (hfl : Flat d) {cs : List Value} {xs : List α} {fs : List Nat} (h : Elems d w cs xs fs) : ∀ w', Elems d w' cs xs [] := by
  intro w'
  induction h with
  | nil => exact .nil
  | @cons c cs x xs f fs ho _ ih => exact Elems.cons (f := []) (hfl w w' x c (d.OR ho)).1 ih
theorem Mem.toRaw {d : Kd α} {T : Nat} {v : Value} {xs : List α} (hfl : Flat d) (h : Mem w0 X w (own d T v xs :: M)) : ∃ cs, (∀ w', Elems d w' cs xs []) ∧ Mem w0 X w (raw T d.sz v xs.length cs :: M) := by
  obtain ⟨F, ⟨cs, b, fs, hr, rfl, hE⟩, hnd, hlt, hclose⟩ := h.take
  exact ⟨cs, hE.flat hfl, hclose w (raw T d.sz v xs.length cs) b hr (List.nodup_append.1 hnd).1 (fun k hk => ⟨hlt k (by simp [hk]), .inl (by simp [hk])⟩) (Fr.refl _ _)⟩
theorem Mem.ofRaw {d : Kd α} {T n : Nat} {v : Value} {xs : List α} {cs : List Value} (hE : ∀ w', Elems d w' cs xs []) (hn : xs.length = n) (h : Mem w0 X w (raw T d.sz v n cs :: M)) : Mem w0 X w (own d T v xs :: M) := by
  subst hn
  obtain ⟨b, hr, hnd, hlt, hclose⟩ := h.take
  exact hclose w (own d T v xs) b ⟨cs, b, [], hr, by simp, hE w⟩ hnd (fun k hk => ⟨hlt k hk, .inl hk⟩) (Fr.refl _ _)
theorem Mem.rawAt {T sz n : Nat} {v : Value} {cs : List Value} (hn : 0 < n) (h : Mem w0 X w (raw T sz v n cs :: M)) : ∃ g c, v = .slice (some ⟨g, 0, none⟩) n c ∧ n ≤ c ∧ c ≤ maxLen := by
  obtain ⟨b, hr, hnd, hlt, hclose⟩ := h.take
  rcases hr with ⟨A, rfl, h0, _⟩ | ⟨g, c, cur, rfl, hg, h1, h2, h3, h4, rfl⟩
  · omega
  · exact ⟨g, c, rfl, h1, h2⟩
theorem Mem.rawExt {T sz n c g m : Nat} {cs : List Value} (hn : 0 < n) (hm : n ≤ m) (hc : m ≤ c) (h : Mem w0 X w (raw T sz (.slice (some ⟨g, 0, none⟩) n c) n cs :: M)) : ∃ js, (cs ++ js).length = m * sz ∧ Mem w0 X w (raw T sz (.slice (some ⟨g, 0, none⟩) m c) m (cs ++ js) :: M) := by
  obtain ⟨b, hr, hnd, hlt, hclose⟩ := h.take
  rcases hr with ⟨A, h9, h0, _⟩ | ⟨g', c', cur, h9, hg, h1, h2, h3, h4, rfl⟩
  · omega
  · injection h9 with e1 e2 e3
    injection e1 with e1
    injection e1 with e1
    subst e1; subst e3
    have hle : n * sz ≤ m * sz := Nat.mul_le_mul_right _ hm
    have hle2 : m * sz ≤ cur.size := by rw [h3]; exact Nat.mul_le_mul_right _ hc
    have e : cur.toList.take (m * sz) = cs ++ (cur.toList.take (m * sz)).drop (n * sz) := by
      have e0 := List.take_append_drop (n * sz) (cur.toList.take (m * sz))
      rw [List.take_take, Nat.min_eq_left hle, h4] at e0
      exact e0.symm
    refine ⟨(cur.toList.take (m * sz)).drop (n * sz), ?_, hclose w (raw T sz (.slice (some ⟨g, 0, none⟩) m c) m (cs ++ _)) [g] (.inr ⟨g, c, cur, rfl, hg, hc, h2, h3, e, rfl⟩) hnd (fun k hk => ⟨hlt k hk, .inl hk⟩) (Fr.refl _ _)⟩
    rw [← e, List.length_take]; simp; omega
/-- What a raw row's cells are. -/
theorem Mem.rawCell {T sz n c g : Nat} {cs : List Value} (hn : 0 < n) (j : Nat) (hj : M[j]? = some (raw T sz (.slice (some ⟨g, 0, none⟩) n c) n cs)) (h : Mem w0 X w M) : (∀ i u, cs[i]? = some u → w.cell? ⟨g, i, none⟩ = some u) ∧ (∃ k, w.shape? g = some (T, k) ∧ k = c * sz) ∧ (∀ i, w.frozen? ⟨g, i, none⟩ = false) := by
  obtain ⟨f, hb, _⟩ := h.get j hj
  rcases hb with ⟨A, h9, h0, _⟩ | ⟨g', c', cur, h9, hg, h1, h2, h3, h4, rfl⟩
  · omega
  · injection h9 with e1 e2 e3
    injection e1 with e1
    injection e1 with e1
    subst e1; subst e3
    refine ⟨fun i u hu => ?_, ⟨cur.size, by simp [World.shape?, hg], h3⟩, fun i => by simp [World.frozen?, hg]⟩
    rw [cell_of_row w g _ cur T (0, 0) hg]
    rw [← h4, List.getElem?_take] at hu
    split at hu
    · simpa using hu
    · cases hu
theorem ex_cap {x : Operand} {T e n c : Nat} {A : Option Addr} (h : o.op = .call { callee := .builtin .cap, args := #[x], argTypes := #[T] }) (hx : ev ρ x = some (.slice A n c)) (hu : P.underlying T = some (.slice e)) : Ex P ρ w o (.int .i64 c) w := fun f hf => by
  simp [execOp, h, resolve, invoke, builtin, hf.ev _ _ hx, Builtin.cap_, run_underlying hu, goInt]
theorem ex_addc {t t' : TypeId} {x y : Operand} {p q z : Int} (h : o.op = .binOp .add t x y t') (hx : ev ρ x = some (.int .i64 p)) (hy : ev ρ y = some (.int .i64 q)) (hz : wrap64 (p + q) = z) : Ex P ρ w o (.int .i64 z) w := hz ▸ ex_add h hx hy
theorem ex_subc {t t' : TypeId} {x y : Operand} {p q z : Int} (h : o.op = .binOp .sub t x y t') (hx : ev ρ x = some (.int .i64 p)) (hy : ev ρ y = some (.int .i64 q)) (hz : wrap64 (p - q) = z) : Ex P ρ w o (.int .i64 z) w := hz ▸ ex_sub h hx hy
theorem ex_slH {T e sz g n c m : Nat} {x y : Operand} {k : IntKind} (ho : o.op = .slice T x none (some y) none) (hx : ev ρ x = some (.slice (some ⟨g, 0, none⟩) n c)) (hy : ev ρ y = some (.int k (m : Int))) (hu : P.underlying T = some (.slice e)) (hs : tsz P e = some sz) (hn : n ≤ c) (hm : m ≤ c) : Ex P ρ w o (.slice (some ⟨g, 0, none⟩) m c) w := fun f hf => by
  have hr := run_sliceCut (P := P) (w := w) (A := some ⟨g, 0, none⟩) (c := c) (n := n) hu hs none (some (.int k (m : Int))) (.inl ⟨rfl, rfl⟩) (.inr ⟨k, rfl⟩) (Nat.zero_le _) hm hn
  have e0 : (if c = 0 then (some ⟨g, 0, none⟩ : Option Addr) else (some (⟨g, 0, none⟩ : Addr)).map (·.add (0 * sz))) = some ⟨g, 0, none⟩ := by
    split
    · rfl
    · simp [add0]
  rw [e0] at hr
  simp [execOp, ho, hf.ev _ _ hx, hf.ev _ _ hy, hr]
theorem ex_slL {T e sz g n c l : Nat} {x y : Operand} {k : IntKind} (ho : o.op = .slice T x (some y) none none) (hx : ev ρ x = some (.slice (some ⟨g, 0, none⟩) n c)) (hy : ev ρ y = some (.int k (l : Int))) (hu : P.underlying T = some (.slice e)) (hs : tsz P e = some sz) (hn : n ≤ c) (hl : l ≤ n) (hlc : l < c) : Ex P ρ w o (.slice (some ⟨g, l * sz, none⟩) (n - l) (c - l)) w := fun f hf => by
  have hr := run_sliceCut (P := P) (w := w) (A := some ⟨g, 0, none⟩) (c := c) (n := n) hu hs (some (.int k (l : Int))) none (.inr ⟨k, rfl⟩) (.inl ⟨rfl, rfl⟩) hl hn hn
  have e0 : (if c = l then (some ⟨g, 0, none⟩ : Option Addr) else (some (⟨g, 0, none⟩ : Addr)).map (·.add (l * sz))) = some ⟨g, l * sz, none⟩ := by
    rw [if_neg (by omega)]
    simp [add0]
  rw [e0] at hr
  simp [execOp, ho, hf.ev _ _ hx, hf.ev _ _ hy, hr]
/-- copy, into a row's cells: all is read before anything is written. -/
theorem does_copyR {T T' e sz n c g k b q l c2 : Nat} {s x : Operand} {cs ds : List Value} (h : o.op = .call { callee := .builtin .copy, args := #[s, x], argTypes := #[T, T'] }) (hv : ev ρ s = some (.slice (some ⟨g, k * sz, none⟩) (n - k) (c - k))) (hx : ev ρ x = some (.slice (some ⟨b, q, none⟩) l c2))
    (hu : P.underlying T = some (.slice e)) (hs : tsz P e = some sz) (hd : ∀ j u, ds[j]? = some u → w.cell? ⟨b, q + j, none⟩ = some u) (h1 : ∀ u ∈ ds, u.oneCell' = true) (hl : ds.length = Nat.min l (n - k) * sz) (hk : k ≤ n) (hn : 0 < n)
    (hm : Mem w0 X w (raw e sz (.slice (some ⟨g, 0, none⟩) n c) n cs :: M)) : Does P ρ w o fun _ w' => Mem w0 X w' (raw e sz (.slice (some ⟨g, 0, none⟩) n c) n (cs.take (k * sz) ++ ds ++ cs.drop (k * sz + ds.length)) :: M) := fun f hf => by
  obtain ⟨bb, hr, hnd, hlt, hclose⟩ := hm.take
  rcases hr with ⟨A, h9, h0, _⟩ | ⟨g', c', cur, h9, hg, h1c, h2, h3, h4, rfl⟩
  · omega
  · injection h9 with e1 e2 e3
    injection e1 with e1
    injection e1 with e1
    subst e1; subst e3
    unfold tsz at hs
    cases hi : P.info? e with
    | none => rw [hi] at hs; cases hs
    | some inf =>
      rw [hi] at hs
      simp at hs
      subst hs
      have hfit0 : k * inf.size + ds.length ≤ n * inf.size := by
        rw [hl, ← Nat.add_mul]
        exact Nat.mul_le_mul_right _ (by simp only [Nat.min_def]; split <;> omega)
      have hfit1 : n * inf.size ≤ cur.size := by rw [h3]; exact Nat.mul_le_mul_right _ h1c
      have hld := run_loadCells_list (P := P) w ⟨b, q, none⟩ ds (fun j u hj => by
        have := hd j u hj
        have e : (⟨b, q, none⟩ : Addr).add j = ⟨b, q + j, none⟩ := by unfold Addr.add; split <;> simp_all
        rw [e]; exact this)
      have hst := run_storeCells_at P g (k * inf.size) e ds 0 cur w hg (by omega) h1
      simp only [Nat.add_zero] at hst
      refine .inl ⟨goInt (Nat.min l (n - k)), w.setRow g (cur.toList.take (k * inf.size) ++ ds ++ cur.toList.drop (k * inf.size + ds.length)).toArray, ?_, hclose _ (raw e inf.size (.slice (some ⟨g, 0, none⟩) n c) n _) [g] (.inr ⟨g, c, (cur.toList.take (k * inf.size) ++ ds ++ cur.toList.drop (k * inf.size + ds.length)).toArray, rfl, setRow_heap w g _ _ _ _ hg, h1c, h2, ?_, ?_, rfl⟩) hnd (fun k hk => ⟨by rw [setRow_size]; exact hlt k hk, .inl hk⟩) (setRow_fr w g _)⟩
      · rw [hl] at hld
        simp [execOp, h, resolve, invoke, builtin, hf.ev _ _ hv, hf.ev _ _ hx, Builtin.copy_, run_underlying hu, Builtin.lenOf, Builtin.firstCells, sizeOf, typeInfo, hi, hld, hst]
      · simp; omega
      · have e5 : (cur.toList.take (k * inf.size) ++ ds ++ cur.toList.drop (k * inf.size + ds.length)).toArray.toList = cur.toList.take (k * inf.size) ++ ds ++ cur.toList.drop (k * inf.size + ds.length) := by simp
        rw [e5, List.take_append, List.take_of_length_le (by simp; omega), ← h4, List.take_take, Nat.min_eq_left (by omega), List.drop_take]
        congr 1
        congr 1
        simp; omega
/-- append(s[:i], make(..)...), where there is no room. -/
theorem does_appMk {T Tn e sz by_ n c g i q : Nat} {s x : Operand} {z : Value} {cs : List Value} {kq kn : IntKind} (h : o.op = .call { callee := .builtin .append, args := #[s, x], argTypes := #[T, Tn] }) (hv : ev ρ s = some (.slice (some ⟨g, 0, none⟩) i c)) (hx : ev ρ x = some (.int kq (q : Int)))
    (hu : P.underlying T = some (.slice e)) (hun : P.underlying Tn = some (.int kn)) (hs : tsz P e = some sz) (hb : tby P e = some by_) (hz : tzero P e = some z) (hzs : z.cells.size = sz) (hsz : 0 < sz) (hin : i < n) (hq : 0 < q) (hg : c < i + q) (hbig : (i + q) * by_ ≤ 140737488355328) (h63 : i + q ≤ maxLen)
    (hm : Mem w0 X w (raw e sz (.slice (some ⟨g, 0, none⟩) n c) n cs :: M)) : Does P ρ w o fun v' w' => ∃ g' c' zs, v' = .slice (some ⟨g', 0, none⟩) (i + q) c' ∧ zs.length = q * sz ∧ Mem w0 X w' (raw e sz (.slice (some ⟨g', 0, none⟩) (i + q) c') (i + q) (cs.take (i * sz) ++ zs) :: raw e sz (.slice (some ⟨g, 0, none⟩) n c) n cs :: M) := fun f hf => by
  have hcell := (hm.rawCell (by omega) 0 rfl).1
  have hcsl : cs.length = n * sz := by
    obtain ⟨bb, hr, hnd, hlt, hclose⟩ := hm.take
    rcases hr with ⟨A, h9, h0, _⟩ | ⟨g', c', cur, h9, hg, h1c, h2, h3, h4, rfl⟩
    · omega
    · injection h9 with e1 e2 e3
      subst e3
      rw [← h4, List.length_take]
      have : n * sz ≤ cur.size := by rw [h3]; exact Nat.mul_le_mul_right _ h1c
      simp; omega
  unfold tsz at hs; unfold tby at hb; unfold tzero at hz
  cases hi : P.info? e with
  | none => rw [hi] at hs; cases hs
  | some inf =>
    rw [hi] at hs hb hz
    simp at hs hb hz
    subst hs; subst hb
    have hle : i * inf.size ≤ n * inf.size := Nat.mul_le_mul_right _ (by omega)
    have hold : (Builtin.firstCells inf.size i (.slice (some ⟨g, 0, none⟩) i c)).run P w.drew = .ok (cs.take (i * inf.size)).toArray w.drew :=
      run_firstCells_some w.drew inf.size i ⟨g, 0, none⟩ i c (cs.take (i * inf.size)) (by rw [List.length_take]; omega) (fun j v hj => by
        rw [List.getElem?_take] at hj
        split at hj
        · rw [add0]; exact hcell j v hj
        · cases hj)
    have hmx : i + q ≤ 9223372036854775807 := by simpa [maxLen] using h63
    have hqb : q * inf.bytes ≤ 281474976710656 := by
      have : q * inf.bytes ≤ (i + q) * inf.bytes := Nat.mul_le_mul_right _ (by omega)
      omega
    have hrun := Lib.run_append_grow_zeros w T Tn o.type e inf z kq kn hu hun hi hz (some ⟨g, 0, none⟩) i c (cs.take (i * inf.size)) hold q hq hsz hg (by omega) hqb (growslice_fits hg hbig)
    obtain ⟨G, hG⟩ : ∃ G, G = grownCap w (i + q) c e := ⟨_, rfl⟩
    have hGn : i + q ≤ G := by rw [hG]; exact grownCap_ge w _ _ _
    have hG63 : G ≤ maxLen := by rw [hG]; exact grownCap_le_maxLen w (i + q) c e h63
    rw [← hG] at hrun
    have hzl : ∀ k, (Builtin.zeroCells z.cells k).toList.length = k * inf.size := fun k => by simp [Builtin.zeroCells]; rw [← hzs]
    have hfd : Mem w0 X w.drew (raw e inf.size (.slice (some ⟨g, 0, none⟩) n c) n cs :: M) := hm.grow (fr_drew w)
    refine .inl ⟨.slice (some ⟨w.heap.size, 0, none⟩) (i + q) G, w.drew.alloc (.cells ((cs.take (i * inf.size)).toArray ++ Builtin.zeroCells z.cells q ++ Builtin.zeroCells z.cells (G - (i + q))) e), ?_, w.heap.size, G, (Builtin.zeroCells z.cells q).toList, rfl, hzl q, ?_⟩
    · simp only [execOp, h, resolve, invoke, builtin, Sem.run_bind, Sem.run_pure, Result.andThen_ok, List.map_toArray, List.map_cons, List.map_nil, hf.ev _ _ hv, hf.ev _ _ hx, hrun]
    · refine hfd.alloc _ (.inr ⟨w.heap.size, G, _, rfl, by simpa using heap_alloc_new w.drew _, hGn, hG63, ?_, ?_, rfl⟩)
      · have := hzl q; have := hzl (G - (i + q))
        simp at *
        rw [Nat.min_eq_left (by omega)]
        have e9 : G * inf.size = i * inf.size + q * inf.size + (G - (i + q)) * inf.size := by rw [← Nat.add_mul, ← Nat.add_mul]; congr 1; omega
        omega
      · have := hzl q
        have e8 : ((cs.take (i * inf.size)).toArray ++ (Builtin.zeroCells z.cells q ++ Builtin.zeroCells z.cells (G - (i + q)))).toList = (cs.take (i * inf.size) ++ (Builtin.zeroCells z.cells q).toList) ++ (Builtin.zeroCells z.cells (G - (i + q))).toList := by simp
        rw [e8, List.take_append_of_le_length (by rw [List.length_append, List.length_take, this, Nat.add_mul, Nat.min_eq_left (by omega)]; exact Nat.le_refl _), List.take_of_length_le (by rw [List.length_append, List.length_take, this, Nat.add_mul, Nat.min_eq_left (by omega)]; exact Nat.le_refl _)]
/-- A call of a function that the model gives. -/
theorem does_ext {g : FuncId} {as : Array Operand} {ts : Array TypeId} {vs : List Value} {v : Value} (h : o.op = .call { callee := .value (.func g), args := as, argTypes := ts }) (hv : evs ρ as.toList = some vs)
    (hc : (callFunc g vs.toArray).run P w = .ok (.value v) w) : Does P ρ w o fun u w' => u = v ∧ w' = w := fun f he => by
  have hv' : as.map f = vs.toArray := he.arr hv
  have hg : f (.func g) = .func (.func g) #[] #[] := he.ev _ _ rfl
  exact .inl ⟨v, w, by simp [execOp, h, resolve, Deferred.ofValue, invoke, hg, hv', hc], rfl, rfl⟩
end raws
end Go.Proofs.Ytbbcabpnkdilgaa.Zk
