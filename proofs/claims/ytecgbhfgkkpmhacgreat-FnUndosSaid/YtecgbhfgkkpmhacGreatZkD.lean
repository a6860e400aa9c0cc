/- Rows of one's own, cut and moved within. No condition. -/
import Derived.Test.YtecgbhfgkkpmhacGreatZkX
namespace Go.Proofs.YtecgbhfgkkpmhacGreat.Zk
set_option linter.unusedVariables false
set_option linter.unusedSimpArgs false
open Go Go.RowKit Go.IntWalk
def cutv : Value → Nat → Nat → Nat → Value
  | .slice A _ c, l, h, sz => .slice (if c = l then A else A.map (·.add (l * sz))) (h - l) (c - l)
  | v, _, _, _ => v
theorem cutv_eq (A : Option Addr) (n c l h sz : Nat) : cutv (.slice A n c) l h sz = .slice (if c = l then A else A.map (·.add (l * sz))) (h - l) (c - l) := rfl
theorem add0 (g k : Nat) : (⟨g, 0, none⟩ : Addr).add k = ⟨g, k, none⟩ := by unfold Addr.add; split <;> simp_all
def CapGe (v : Value) (m : Nat) : Prop := ∃ A n c, v = .slice A n c ∧ n ≤ c ∧ m ≤ c
theorem CapGe.le {v : Value} {m k : Nat} (h : CapGe v m) (hk : k ≤ m) : CapGe v k := by
  obtain ⟨A, n, c, h1, h2, h3⟩ := h
  exact ⟨A, n, c, h1, h2, by omega⟩
theorem RdS.cap {α : Type} {d : Kd α} {w : World} {v : Value} {xs : List α} (h : RdS d w v xs) : CapGe v xs.length := by
  obtain ⟨A, c, h1, h2, _⟩ := h
  exact ⟨A, _, c, h1, h2, h2⟩
theorem cut_lt2 {i j : Int} {n : Nat} (h : cutOk i j.toNat = true) (k : cutOk j n = true) : i ≤ j := by
  have := cut_lo h; have := cut_hi h; have := cut_lo k; omega
theorem cut_le2 {j : Int} {n : Nat} (k : cutOk j n = true) : j ≤ (n : Int) := by
  have := cut_lo k; have := cut_hi k; omega
theorem lt_nat {i j : Int} (h : cutOk i j.toNat = true) (k : decide (i < j) = true) : i.toNat < j.toNat := by
  have := cut_lo h; have h2 := of_decide_eq_true k; omega
section cuts
variable {P : Program} {ρ : Env} {w : World} {o : Oper} {T e sz : Nat} {x y z t : Operand} {v : Value} {i j m : Int} {k k' k'' : IntKind}
theorem run_cutv {l h n c : Nat} {A : Option Addr} (hu : P.underlying T = some (.slice e)) (hs : tsz P e = some sz) (lo hi : Option Value) (hl : lo = none ∧ l = 0 ∨ ∃ k, lo = some (.int k l)) (hh : hi = none ∧ h = n ∨ ∃ k, hi = some (.int k h)) (hlh : l ≤ h) (hc : h ≤ c) (hn : n ≤ c) :
    (Instr.sliceAt T (.slice A n c) lo hi none).run P w = .ok (cutv (.slice A n c) l h sz) w := run_sliceCut hu hs lo hi hl hh hlh hc hn
theorem ex_cutvH (ho : o.op = .slice T x none (some y) none) (hx : ev ρ x = some v) (hy : ev ρ y = some (.int k i)) (hu : P.underlying T = some (.slice e)) (hs : tsz P e = some sz) (h0 : 0 ≤ i) (hc : CapGe v i.toNat) : Ex P ρ w o (cutv v 0 i.toNat sz) w := fun f hf => by
  obtain ⟨A, n, c, rfl, h1, h2⟩ := hc
  have hr := run_cutv (w := w) (A := A) (c := c) (n := n) hu hs none (some (.int k (i.toNat : Int))) (.inl ⟨rfl, rfl⟩) (.inr ⟨k, rfl⟩) (Nat.zero_le _) h2 h1
  rw [Int.toNat_of_nonneg h0] at hr
  simp [execOp, ho, hf.ev _ _ hx, hf.ev _ _ hy, hr]
theorem ex_cutvL {α : Type} {d : Kd α} {w1 : World} {xs : List α} (ho : o.op = .slice T x (some y) none none) (hx : ev ρ x = some v) (hy : ev ρ y = some (.int k i)) (hu : P.underlying T = some (.slice e)) (hs : tsz P e = some sz) (hr : RdS d w1 v xs) (hi : cutOk i xs.length = true) : Ex P ρ w o (cutv v i.toNat xs.length sz) w := fun f hf => by
  obtain ⟨A, c, rfl, h1, _⟩ := hr
  have hr := run_cutv (w := w) (A := A) (c := c) (n := xs.length) hu hs (some (.int k (i.toNat : Int))) none (.inr ⟨k, rfl⟩) (.inl ⟨rfl, rfl⟩) (cut_hi hi) h1 h1
  rw [Int.toNat_of_nonneg (cut_lo hi)] at hr
  simp [execOp, ho, hf.ev _ _ hx, hf.ev _ _ hy, hr]
theorem ex_cutvLH (ho : o.op = .slice T x (some y) (some z) none) (hx : ev ρ x = some v) (hy : ev ρ y = some (.int k i)) (hz : ev ρ z = some (.int k' j)) (hu : P.underlying T = some (.slice e)) (hs : tsz P e = some sz) (h0 : 0 ≤ i) (hij : i ≤ j) (hc : CapGe v j.toNat) : Ex P ρ w o (cutv v i.toNat j.toNat sz) w := fun f hf => by
  obtain ⟨A, n, c, rfl, h1, h2⟩ := hc
  have hr := run_cutv (w := w) (A := A) (c := c) (n := n) hu hs (some (.int k (i.toNat : Int))) (some (.int k' (j.toNat : Int))) (.inr ⟨k, rfl⟩) (.inr ⟨k', rfl⟩) (by omega) h2 h1
  rw [Int.toNat_of_nonneg h0, Int.toNat_of_nonneg (by omega)] at hr
  simp [execOp, ho, hf.ev _ _ hx, hf.ev _ _ hy, hf.ev _ _ hz, hr]
theorem ex_cut3 (ho : o.op = .slice T x (some y) (some z) (some t)) (hx : ev ρ x = some v) (hy : ev ρ y = some (.int k i)) (hz : ev ρ z = some (.int k' j)) (ht : ev ρ t = some (.int k'' m)) (hu : P.underlying T = some (.slice e)) (hs : tsz P e = some sz) (h0 : 0 ≤ i) (hij : i ≤ j) (hjm : j ≤ m) (hc : CapGe v m.toNat) : ∃ u, (∀ w, Ex P ρ w o u w) ∧ True := by
  obtain ⟨A, n, c, rfl, h1, h2⟩ := hc
  refine ⟨.slice (if m.toNat = i.toNat then A else A.map (·.add (i.toNat * sz))) (j.toNat - i.toNat) (m.toNat - i.toNat), fun w f hf => ?_, trivial⟩
  have b1 := run_sliceBound (P := P) w k'' m c .slice3Acap (by omega) (by omega)
  have b2 := run_sliceBound (P := P) w k' j m.toNat .slice3B (by omega) (by omega)
  have b3 := run_sliceBound (P := P) w k i j.toNat .slice3C (by omega) (by omega)
  simp [execOp, ho, hf.ev _ _ hx, hf.ev _ _ hy, hf.ev _ _ hz, hf.ev _ _ ht, Instr.sliceAt, Instr.slice, run_underlying hu, Instr.sliceBounds, b1, b2, b3, run_sizeOf hs]
end cuts
section moves
variable {P : Program} {ρ : Env} {w w0 : World} {X : List Nat} {M : List Chunk} {o : Oper} {T e sz by_ : Nat} {s x : Operand} {v z : Value} {α : Type} {xs : List α}
theorem ops_doesN {ops : Array Oper} {is : List Nat} {N : Nat} {Q : Post} {i : Nat} {R : Value → World → Prop} (ho : ops[i]? = some o) (hg : Guard ops ρ o true) (hd : o.dst = none) (hx : Does P ρ w o R)
    (k : ∀ v w', R v w' → Ops P ops N ρ w' Q is) : Ops P ops N ρ w Q (i :: is) := fun a ha => by
  simp only [wpOps, ho, hg a N ha, if_true]
  exact Or.inl (hx.wp ha fun v w' hR => by rw [hd]; exact k v w' hR _ ha)
theorem does_delApp {i j : Nat} (d : Kd α) (h : o.op = .call { callee := .builtin .append, args := #[s, x], argTypes := #[T, T] }) (hv : ev ρ s = some (cutv v 0 i d.sz)) (hx : ev ρ x = some (cutv v j xs.length d.sz))
    (hu : P.underlying T = some (.slice e)) (hs : tsz P e = some d.sz) (hij : i < j) (hj : j ≤ xs.length) (hm : Mem w0 X w (own d e v xs :: M)) :
    Does P ρ w o fun v' w' => CapGe v' xs.length ∧ Mem w0 X w' (own d e v' (xs.take i ++ xs.drop j) :: M) := fun f hf => by
  obtain ⟨F, ⟨cs, b, fs, hr, rfl, hE⟩, hnd, hlt, hclose⟩ := hm.take
  rcases hr with ⟨A, rfl, hn, _, _⟩ | ⟨g, c, cur, rfl, hg, hnc, hcm, hcs, htk, rfl⟩
  · omega
  obtain ⟨c1, c2, f1, f2, e1, e2, hl1, hE1, hE2⟩ : ∃ c1 c2 f1 f2, cs = c1 ++ c2 ∧ fs = f1 ++ f2 ∧ c1.length = j * d.sz ∧ Elems d w c1 (xs.take j) f1 ∧ Elems d w c2 (xs.drop j) f2 := by
    have key : ∀ {cs : List Value} {xs : List α} {fs : List Nat} (j : Nat), Elems d w cs xs fs → j ≤ xs.length → ∃ c1 c2 f1 f2, cs = c1 ++ c2 ∧ fs = f1 ++ f2 ∧ c1.length = j * d.sz ∧ Elems d w c1 (xs.take j) f1 ∧ Elems d w c2 (xs.drop j) f2 := by
      intro cs xs fs j hE
      induction hE generalizing j with
      | nil => intro hj; obtain rfl : j = 0 := by simpa using hj
               exact ⟨[], [], [], [], rfl, rfl, by simp, .nil, .nil⟩
      | @cons c cs x xs f fs ho hs ih =>
        intro hj
        cases j with
        | zero => exact ⟨[], c ++ cs, [], f ++ fs, rfl, rfl, by simp, .nil, .cons ho hs⟩
        | succ j =>
          obtain ⟨c1, c2, f1, f2, rfl, rfl, h1, h2, h3⟩ := ih j (by simpa using hj)
          refine ⟨c ++ c1, c2, f ++ f1, f2, by simp, by simp, ?_, ?_, h3⟩
          · rw [List.length_append, d.len (d.OR ho), h1, Nat.add_mul, Nat.one_mul, Nat.add_comm]
          · rw [List.take_succ_cons]; exact .cons ho h2
    exact key j hE hj
  obtain ⟨d1, d2, g1, g2, e3, e4, hl3, hE3, hE4⟩ : ∃ d1 d2 g1 g2, c1 = d1 ++ d2 ∧ f1 = g1 ++ g2 ∧ d1.length = i * d.sz ∧ Elems d w d1 (xs.take i) g1 ∧ Elems d w d2 ((xs.take j).drop i) g2 := by
    have key : ∀ {cs : List Value} {xs : List α} {fs : List Nat} (j : Nat), Elems d w cs xs fs → j ≤ xs.length → ∃ c1 c2 f1 f2, cs = c1 ++ c2 ∧ fs = f1 ++ f2 ∧ c1.length = j * d.sz ∧ Elems d w c1 (xs.take j) f1 ∧ Elems d w c2 (xs.drop j) f2 := by
      intro cs xs fs j hE
      induction hE generalizing j with
      | nil => intro hj; obtain rfl : j = 0 := by simpa using hj
               exact ⟨[], [], [], [], rfl, rfl, by simp, .nil, .nil⟩
      | @cons c cs x xs f fs ho hs ih =>
        intro hj
        cases j with
        | zero => exact ⟨[], c ++ cs, [], f ++ fs, rfl, rfl, by simp, .nil, .cons ho hs⟩
        | succ j =>
          obtain ⟨c1, c2, f1, f2, rfl, rfl, h1, h2, h3⟩ := ih j (by simpa using hj)
          refine ⟨c ++ c1, c2, f ++ f1, f2, by simp, by simp, ?_, ?_, h3⟩
          · rw [List.length_append, d.len (d.OR ho), h1, Nat.add_mul, Nat.one_mul, Nat.add_comm]
          · rw [List.take_succ_cons]; exact .cons ho h2
    have := key i hE1 (by rw [List.length_take]; omega)
    rw [List.take_take, Nat.min_eq_left (by omega)] at this
    exact this
  subst e1; subst e2; subst e3; subst e4
  have hl2 : c2.length = (xs.length - j) * d.sz := by rw [hE2.length, List.length_drop]
  have hcur : xs.length * d.sz ≤ cur.size := by rw [hcs]; exact Nat.mul_le_mul_right _ hnc
  have hsplit : xs.length * d.sz = j * d.sz + (xs.length - j) * d.sz := by rw [← Nat.add_mul]; congr 1; omega
  unfold tsz at hs
  cases hi : P.info? e with
  | none => rw [hi] at hs; cases hs
  | some inf =>
    rw [hi] at hs
    simp at hs
    have hsz : inf.size = d.sz := hs
    have hij' : i * d.sz ≤ j * d.sz := Nat.mul_le_mul_right _ (Nat.le_of_lt hij)
    have hcells : ∀ k u, c2[k]? = some u → w.cell? ((⟨g, j * d.sz, none⟩ : Addr).add k) = some u := fun k u hk => by
      have hadd : (⟨g, j * d.sz, none⟩ : Addr).add k = ⟨g, j * d.sz + k, none⟩ := by unfold Addr.add; split <;> simp_all
      rw [hadd, cell_of_row w g _ cur e (0, 0) hg]
      have : (cur.toList.take (xs.length * d.sz))[j * d.sz + k]? = some u := by
        rw [htk, List.getElem?_append_right (by omega), hl1, Nat.add_sub_cancel_left]; exact hk
      rw [List.getElem?_take] at this
      split at this
      · simpa using this
      · cases this
    have hone := hE2.one
    -- the two values
    have hs1 : cutv (.slice (some ⟨g, 0, none⟩) xs.length c) 0 i d.sz = .slice (some ⟨g, 0, none⟩) i c := by
      rw [cutv_eq, if_neg (by omega)]
      simp [add0]
    have hA : (if c = j then some (⟨g, 0, none⟩ : Addr) else (some (⟨g, 0, none⟩ : Addr)).map (·.add (j * d.sz))) = some ⟨g, j * d.sz, none⟩ ∨ xs.length - j = 0 := by
      by_cases hcj : c = j
      · right; omega
      · left; rw [if_neg hcj]; simp [add0]
    rw [hs1] at hv
    by_cases hz : xs.length - j = 0
    · -- nothing behind
      have hc2 : c2 = [] := List.eq_nil_of_length_eq_zero (by rw [hl2, hz]; simp)
      have hd0 : xs.drop j = [] := List.drop_of_length_le (by omega)
      have hx' : ∃ A', ev ρ x = some (.slice A' 0 (c - j)) := ⟨_, by rw [hx, cutv_eq, hz]⟩
      obtain ⟨A', hx'⟩ := hx'
      have key : (Builtin.append_ #[T, T] o.type #[.slice (some ⟨g, 0, none⟩) i c, .slice A' 0 (c - j)]).run P w = .ok (.slice (some ⟨g, 0, none⟩) i c) w := by
        have hic : i ≤ c := by omega
        cases A' <;> simp [Builtin.append_, run_underlying hu, sizeOf, typeInfo, hi, Builtin.lenOf, Builtin.firstCells, hic, storeCells, loadCells, loadCellsFrom]
      refine .inl ⟨.slice (some ⟨g, 0, none⟩) i c, w, ?_, ⟨_, i, c, rfl, by omega, hnc⟩, hclose w (own d e (.slice (some ⟨g, 0, none⟩) i c) (xs.take i ++ xs.drop j)) ([g] ++ g1) ⟨d1, [g], g1, .inr ⟨g, c, cur, ?_, hg, ?_, hcm, hcs, ?_, rfl⟩, rfl, ?_⟩ ?_ ?_ (Fr.refl _ _)⟩
      · simp only [execOp, h, resolve, invoke, builtin, Sem.run_bind, Sem.run_pure, Result.andThen_ok, List.map_toArray, List.map_cons, List.map_nil, hf.ev _ _ hv, hf.ev _ _ hx', key]
      · rw [hd0]; simp; omega
      · rw [hd0]; simp; omega
      · rw [hd0, List.append_nil, List.length_take, Nat.min_eq_left (by omega)]
        have e5 : cur.toList.take (i * d.sz) = ((cur.toList.take (xs.length * d.sz)).take (i * d.sz)) := by rw [List.take_take, Nat.min_eq_left (by omega)]
        rw [e5, htk, List.append_assoc, ← hl3, List.take_left]
      · rw [hd0, List.append_nil]; exact hE3
      · have h9 : ([g] ++ g1).Sublist ([g] ++ (g1 ++ g2 ++ f2)) := List.Sublist.append (.refl _) (by rw [List.append_assoc]; exact List.sublist_append_left _ _)
        exact h9.nodup hnd
      · intro k hk
        have : k ∈ [g] ++ (g1 ++ g2 ++ f2) := by simp only [List.mem_append] at hk ⊢; rcases hk with h | h <;> simp [h]
        exact ⟨hlt k this, .inl this⟩
    · have hx' : ev ρ x = some (.slice (some ⟨g, j * d.sz, none⟩) (xs.length - j) (c - j)) := by
        rw [hx, cutv_eq]
        rcases hA with hA | hA
        · rw [hA]
        · exact absurd hA hz
      have hfit : i * inf.size + c2.length ≤ cur.size := by rw [hsz, hl2]; omega
      have hrun := run_append_room (P := P) w T o.type e inf hu hi g i c cur hg ⟨g, j * d.sz, none⟩ (xs.length - j) (c - j) c2 (by rw [hl2, hsz]) hcells hone (by omega) hfit
      rw [hsz] at hrun hfit
      have hk : ∀ b ∈ g1 ++ f2, (w.setRow g (cur.toList.take (i * d.sz) ++ c2 ++ cur.toList.drop (i * d.sz + c2.length)).toArray).heap[b]? = w.heap[b]? := fun b hb => by
        refine (setRow_fr w g _).block b (hlt b ?_) ?_
        · simp only [List.mem_append] at hb ⊢; rcases hb with h | h <;> simp [h]
        · intro hbg
          simp at hbg; subst hbg
          have := (List.nodup_append.1 hnd).2.2 b (by simp) b (by simp only [List.mem_append] at hb ⊢; rcases hb with h | h <;> simp [h])
          exact this rfl
      refine .inl ⟨.slice (some ⟨g, 0, none⟩) (i + (xs.length - j)) c, (w.setRow g (cur.toList.take (i * d.sz) ++ c2 ++ cur.toList.drop (i * d.sz + c2.length)).toArray), ?_, ⟨_, _, c, rfl, by omega, hnc⟩, hclose (w.setRow g (cur.toList.take (i * d.sz) ++ c2 ++ cur.toList.drop (i * d.sz + c2.length)).toArray) (own d e (.slice (some ⟨g, 0, none⟩) (i + (xs.length - j)) c) (xs.take i ++ xs.drop j)) ([g] ++ (g1 ++ f2)) ⟨d1 ++ c2, [g], g1 ++ f2, .inr ⟨g, c, (cur.toList.take (i * d.sz) ++ c2 ++ cur.toList.drop (i * d.sz + c2.length)).toArray, ?_, setRow_heap w g _ _ _ _ hg, ?_, hcm, ?_, ?_, rfl⟩, rfl, ?_⟩ ?_ ?_ ?_⟩
      · simp only [execOp, h, resolve, invoke, builtin, Sem.run_bind, Sem.run_pure, Result.andThen_ok, List.map_toArray, List.map_cons, List.map_nil, hf.ev _ _ hv, hf.ev _ _ hx', hrun]
      · rw [List.length_append, List.length_take, List.length_drop, Nat.min_eq_left (by omega)]
      · rw [List.length_append, List.length_take, List.length_drop, Nat.min_eq_left (by omega)]; omega
      · have : i * d.sz ≤ cur.size := by omega
        simp; rw [← hcs]; omega
      · rw [List.length_append, List.length_take, List.length_drop, Nat.min_eq_left (by omega)]
        have e5 : cur.toList.take (i * d.sz) = d1 := by
          have e6 : cur.toList.take (i * d.sz) = ((cur.toList.take (xs.length * d.sz)).take (i * d.sz)) := by rw [List.take_take, Nat.min_eq_left (by omega)]
          rw [e6, htk, List.append_assoc, ← hl3, List.take_left]
        have e7 : (cur.toList.take (i * d.sz) ++ c2 ++ cur.toList.drop (i * d.sz + c2.length)).toArray.toList = (d1 ++ c2) ++ cur.toList.drop (i * d.sz + c2.length) := by simp [e5]
        rw [e7, List.take_append_of_le_length (by rw [List.length_append, hl3, hl2, Nat.add_mul]; exact Nat.le_refl _), List.take_of_length_le (by rw [List.length_append, hl3, hl2, Nat.add_mul]; exact Nat.le_refl _)]
      · exact (hE3.st fun b hb => hk b (by simp [hb])).append (hE2.st fun b hb => hk b (by simp [hb]))
      · have h9 : ([g] ++ (g1 ++ f2)).Sublist ([g] ++ (g1 ++ g2 ++ f2)) := List.Sublist.append (.refl _) (List.Sublist.append (List.sublist_append_left _ _) (.refl _))
        exact h9.nodup hnd
      · intro k hk
        have : k ∈ [g] ++ (g1 ++ g2 ++ f2) := by simp only [List.mem_append] at hk ⊢; rcases hk with h | h | h <;> simp [h]
        exact ⟨by rw [setRow_size]; exact hlt k this, .inl this⟩
      · refine ⟨rfl, rfl, rfl, by rw [setRow_size]; exact Nat.le_refl _, fun _ => Nat.le_refl _, fun k hk hn => (setRow_fr w g _).block k hk fun h' => hn ?_⟩
        simp at h'; subst h'; simp
theorem does_clear {n : Nat} {zs : List Value} (d : Kd α) (h : o.op = .call { callee := .builtin .clear, args := #[x], argTypes := #[T] }) (hx : ev ρ x = some (cutv v xs.length n d.sz)) (hu : P.underlying T = some (.slice e)) (hs : tsz P e = some d.sz) (hz : tzero P e = some z) (hzl : z.cells.toList = zs) (hzs : zs.length = d.sz) (h1 : ∀ u ∈ zs, u.oneCell' = true)
    (hn : xs.length ≤ n) (hc : CapGe v n) (hm : Mem w0 X w (own d e v xs :: M)) : Does P ρ w o fun _ w' => Mem w0 X w' (own d e v xs :: M) := fun f hf => by
  subst hzl
  obtain ⟨F, ⟨cs, b, fs, hr, rfl, hE⟩, hnd, hlt, hclose⟩ := hm.take
  by_cases hnx : n = xs.length
  · subst hnx
    obtain ⟨A, m, c, rfl, hm1, hm2⟩ := hc
    refine .inl ⟨.tuple #[], w, ?_, hm⟩
    have hx' : ∃ A', ev ρ x = some (.slice A' 0 (c - xs.length)) := ⟨_, by rw [hx, cutv_eq, Nat.sub_self]⟩
    obtain ⟨A', hx'⟩ := hx'
    cases A' <;> simp [execOp, h, resolve, invoke, builtin, Builtin.clear_, run_underlying hu, hf.ev _ _ hx']
  · rcases hr with ⟨A, rfl, hn0, _, _⟩ | ⟨g, c, cur, rfl, hg, hnc, hcm, hcs, htk, rfl⟩
    · obtain ⟨A', m', c', e1, h2, h3⟩ := hc
      injection e1 with _ _ e2
      omega
    · obtain ⟨A', m', c', e1, h2, h3⟩ := hc
      injection e1 with _ _ e2
      have hx' : ev ρ x = some (.slice (some ⟨g, xs.length * d.sz, none⟩) (n - xs.length) (c - xs.length)) := by
        rw [hx, cutv_eq, if_neg (by omega)]
        simp [add0]
      obtain ⟨q, hq⟩ : ∃ q, n - xs.length = q + 1 := ⟨n - xs.length - 1, by omega⟩
      have hzc : (Builtin.zeroCells z.cells (q + 1)).toList.length = (q + 1) * d.sz := by simp [Builtin.zeroCells]; rw [← hzs]; simp
      have hone : ∀ u ∈ (Builtin.zeroCells z.cells (q + 1)).toList, u.oneCell' = true := by
        intro u hu
        simp only [Builtin.zeroCells, Array.toList_map, List.mem_map] at hu
        obtain ⟨k, hk, rfl⟩ := hu
        have hk2 : k < (q + 1) * z.cells.size := by simpa using hk
        have hpos : 0 < z.cells.size := by
          rcases Nat.eq_zero_or_pos z.cells.size with h | h
          · rw [h] at hk2; simp at hk2
          · exact h
        have hk3 : k % z.cells.size < z.cells.size := Nat.mod_lt _ hpos
        rw [getElem!_pos z.cells _ hk3]
        exact h1 _ (by simp)
      have hfit : xs.length * d.sz + (q + 1) * d.sz ≤ cur.size := by
        rw [← Nat.add_mul, hcs]; exact Nat.mul_le_mul_right _ (by omega)
      have hst := run_storeCells_at P g (xs.length * d.sz) e (Builtin.zeroCells z.cells (q + 1)).toList 0 cur w hg (by rw [hzc]; simpa using hfit) hone
      simp only [Nat.add_zero] at hst
      have hk : ∀ b ∈ fs, (w.setRow g (cur.toList.take (xs.length * d.sz) ++ (Builtin.zeroCells z.cells (q + 1)).toList ++ cur.toList.drop (xs.length * d.sz + (Builtin.zeroCells z.cells (q + 1)).toList.length)).toArray).heap[b]? = w.heap[b]? := fun b hb => by
        refine (setRow_fr w g _).block b (hlt b (by simp [hb])) ?_
        intro hbg
        simp at hbg; subst hbg
        exact (List.nodup_append.1 hnd).2.2 b (by simp) b hb rfl
      refine .inl ⟨.tuple #[], w.setRow g (cur.toList.take (xs.length * d.sz) ++ (Builtin.zeroCells z.cells (q + 1)).toList ++ cur.toList.drop (xs.length * d.sz + (Builtin.zeroCells z.cells (q + 1)).toList.length)).toArray, ?_, hclose (w.setRow g (cur.toList.take (xs.length * d.sz) ++ (Builtin.zeroCells z.cells (q + 1)).toList ++ cur.toList.drop (xs.length * d.sz + (Builtin.zeroCells z.cells (q + 1)).toList.length)).toArray) (own d e (.slice (some ⟨g, 0, none⟩) xs.length c) xs) ([g] ++ fs) ⟨cs, [g], fs, .inr ⟨g, c, (cur.toList.take (xs.length * d.sz) ++ (Builtin.zeroCells z.cells (q + 1)).toList ++ cur.toList.drop (xs.length * d.sz + (Builtin.zeroCells z.cells (q + 1)).toList.length)).toArray, rfl, setRow_heap w g _ _ _ _ hg, hnc, hcm, ?_, ?_, rfl⟩, rfl, hE.st hk⟩ hnd ?_ ?_⟩
      · simp [execOp, h, resolve, invoke, builtin, Builtin.clear_, run_underlying hu, hf.ev _ _ hx', hq, run_zeroValue hz, hst]
      · have : xs.length * d.sz ≤ cur.size := by omega
        simp only [List.size_toArray, List.length_append, List.length_take, Array.length_toList, List.length_drop, hzc]
        rw [← hcs]; omega
      · have hcur : xs.length * d.sz ≤ cur.toList.length := by simp; omega
        have e7 : (cur.toList.take (xs.length * d.sz) ++ (Builtin.zeroCells z.cells (q + 1)).toList ++ cur.toList.drop (xs.length * d.sz + (Builtin.zeroCells z.cells (q + 1)).toList.length)).toArray.toList = cur.toList.take (xs.length * d.sz) ++ ((Builtin.zeroCells z.cells (q + 1)).toList ++ cur.toList.drop (xs.length * d.sz + (Builtin.zeroCells z.cells (q + 1)).toList.length)) := by simp
        rw [e7, List.take_append_of_le_length (by rw [List.length_take]; omega), List.take_take, Nat.min_self]
        exact htk
      · intro k hk'
        exact ⟨by rw [setRow_size]; exact hlt k hk', .inl hk'⟩
      · refine ⟨rfl, rfl, rfl, by rw [setRow_size]; exact Nat.le_refl _, fun _ => Nat.le_refl _, fun k hk' hn' => (setRow_fr w g _).block k hk' fun h' => hn' ?_⟩
        simp at h'; subst h'; simp
end moves

section onto
variable {P : Program} {ρ : Env} {w w0 : World} {X : List Nat} {M : List Chunk} {o : Oper} {T e by_ : Nat} {s x : Operand} {z : Value} {α : Type} {xs : List α}
theorem Elems.cut {d : Kd α} {w : World} {cs : List Value} {xs : List α} {fs : List Nat} (hE : Elems d w cs xs fs) : ∀ j, j ≤ xs.length → ∃ f1 f2, fs = f1 ++ f2 ∧ Elems d w (cs.take (j * d.sz)) (xs.take j) f1 ∧ Elems d w (cs.drop (j * d.sz)) (xs.drop j) f2 := by
  induction hE with
  | nil => intro j hj; exact ⟨[], [], rfl, by simpa using .nil, by simpa using .nil⟩
  | @cons c cs x xs f fs ho hs ih =>
    intro j hj
    cases j with
    | zero => exact ⟨[], f ++ fs, rfl, by simpa using .nil, by simpa using .cons ho hs⟩
    | succ j =>
      obtain ⟨f1, f2, rfl, h1, h2⟩ := ih j (by simpa using hj)
      have hl := d.len (d.OR ho)
      have e1 : (j + 1) * d.sz = c.length + j * d.sz := by rw [hl, Nat.add_mul, Nat.one_mul, Nat.add_comm]
      refine ⟨f ++ f1, f2, by simp, ?_, ?_⟩
      · rw [e1, List.take_length_add_append, List.take_succ_cons]; exact .cons ho h1
      · rw [e1, List.drop_length_add_append, List.drop_succ_cons]; exact h2
def mvC (d : Kd α) (T : TypeId) (ov : Value) (xs : List α) (v : Value) (k : Nat) : Chunk :=
  ⟨fun w f => ∃ cells b1 b2 fs, RowC w T d.sz ov xs.length cells b1 ∧ RowC w T d.sz v k (cells.take (k * d.sz)) b2 ∧ k ≤ xs.length ∧ Elems d w cells xs fs ∧ f = b1 ++ (b2 ++ fs), fun ⟨cells, b1, b2, fs, h1, h2, h3, h4, e⟩ hk => by
    subst e
    exact ⟨cells, b1, b2, fs, h1.st fun b hb => hk b (by simp [hb]), h2.st fun b hb => hk b (by simp [hb]), h3, h4.st fun b hb => hk b (by simp [hb]), rfl⟩⟩
theorem Mem.mv_rd {d : Kd α} {ov v : Value} {k : Nat} (h : Mem w0 X w M) (j : Nat) (hj : M[j]? = some (mvC d T ov xs v k)) : RdS d w ov xs := by
  obtain ⟨f, ⟨cells, b1, b2, fs, h1, h2, h3, h4, e⟩, _⟩ := h.get j hj
  exact OwS.rd ⟨cells, b1, fs, h1, rfl, h4⟩
theorem cut_src {d : Kd α} {ov : Value} {cells : List Value} {b : List Nat} {fs : List Nat} {l h : Nat} (hr : RowC w T d.sz ov xs.length cells b) (hE : Elems d w cells xs fs) (hlh : l ≤ h) (hh : h ≤ xs.length) :
    ∃ A c, cutv ov l h d.sz = .slice A (h - l) c ∧ (h - l = 0 ∨ ∃ a, A = some a ∧ ∀ j u, ((cells.take (h * d.sz)).drop (l * d.sz))[j]? = some u → w.cell? (a.add j) = some u) := by
  rcases hr with ⟨A, rfl, hn, rfl, rfl⟩ | ⟨g, c, cur, rfl, hg, hnc, hcm, hcs, htk, rfl⟩
  · exact ⟨_, _, cutv_eq _ _ _ _ _ _, .inl (by omega)⟩
  · refine ⟨_, _, cutv_eq _ _ _ _ _ _, ?_⟩
    by_cases hz : h - l = 0
    · exact .inl hz
    · right
      refine ⟨⟨g, l * d.sz, none⟩, ?_, fun j u hj => ?_⟩
      · rw [if_neg (by omega)]; simp [add0]
      · have hadd : (⟨g, l * d.sz, none⟩ : Addr).add j = ⟨g, l * d.sz + j, none⟩ := by unfold Addr.add; split <;> simp_all
        rw [hadd, cell_of_row w g _ cur T (0, 0) hg]
        rw [List.getElem?_drop, List.getElem?_take] at hj
        split at hj
        · rw [← htk, List.getElem?_take] at hj
          split at hj
          · simpa using hj
          · cases hj
        · cases hj
theorem does_mv1 {va ov : Value} {k : Nat} (d : Kd α) (h : o.op = .call { callee := .builtin .append, args := #[s, x], argTypes := #[T, T] }) (hv : ev ρ s = some va) (hx : ev ρ x = some (cutv ov 0 k d.sz))
    (hu : P.underlying T = some (.slice e)) (hs : tsz P e = some d.sz) (hb : tby P e = some by_) (hz : tzero P e = some z) (hzs : z.cells.size = d.sz) (hb0 : Nat.blt 0 by_ = true) (hk : k ≤ xs.length) (hbig : k * by_ ≤ 140737488355328)
    (hm : Mem w0 X w (own d e va [] :: own d e ov xs :: M)) : Does P ρ w o fun v' w' => Mem w0 X w' (mvC d e ov xs v' k :: M) := fun f hf => by
  have hb0' : 0 < by_ := by simpa [Nat.blt_eq] using hb0
  obtain ⟨F, ⟨g, k', rfl, ⟨cs1, b1, fs1, hr1, rfl, hE1⟩, ⟨cs2, b2, fs2, hr2, rfl, hE2⟩⟩, hnd, hlt, hclose⟩ := hm.star.take
  cases hE1
  obtain ⟨A, c, hcv, hA⟩ := cut_src (l := 0) (h := k) hr2 hE2 (Nat.zero_le _) hk
  rw [Nat.sub_zero] at hcv hA
  rw [Nat.zero_mul, List.drop_zero] at hA
  have hle : k ≤ 140737488355328 := Nat.le_trans (Nat.le_mul_of_pos_right _ hb0') hbig
  have hln : (cs2.take (k * d.sz)).length = k * d.sz := by
    rw [List.length_take, hE2.length, Nat.min_eq_left (Nat.mul_le_mul_right _ hk)]
  obtain ⟨v', w', f', hrun, hrow, hfr, hf', hnd'⟩ := run_app (P := P) (w := w) (T := T) (ty := o.type) (e := e) (m := k) (c := c) (A := A) (news := cs2.take (k * d.sz)) hu hs hb hz hzs hr1 (by simp) hln hA (fun u hu => hE2.one u (List.mem_of_mem_take hu)) (by simpa using hbig) (by simp only [maxLen]; simp; omega) (fun b hb => hlt b (by simp [hb]))
  simp only [List.length_nil, Nat.zero_add, List.nil_append] at hrow
  obtain ⟨n1, n2, n3⟩ := List.nodup_append.1 hnd
  have hk2 : ∀ b ∈ b2 ++ fs2, w'.heap[b]? = w.heap[b]? := fun b hb => hfr.block b (hlt b (by simp only [List.mem_append] at hb ⊢; rcases hb with h | h <;> simp [h])) fun hb' => n3 b (by simp [hb']) b hb rfl
  refine .inl ⟨v', w', ?_, hclose w' (mvC d e ov xs v' k) (b2 ++ (f' ++ fs2)) ⟨cs2, b2, f', fs2, hr2.st fun b hb => hk2 b (by simp [hb]), hrow, hk, hE2.st fun b hb => hk2 b (by simp [hb]), rfl⟩ ?_ ?_ ?_⟩
  · simp only [execOp, h, resolve, invoke, builtin, Sem.run_bind, Sem.run_pure, Result.andThen_ok, List.map_toArray, List.map_cons, List.map_nil, hf.ev _ _ hv, hf.ev _ _ hx, hcv, hrun]
  · have hp : (b2 ++ (f' ++ fs2)).Perm (f' ++ (b2 ++ fs2)) := by
      rw [List.perm_iff_count]; intro a; simp only [List.count_append]; omega
    refine hp.nodup_iff.2 (List.nodup_append.2 ⟨hnd', n2, fun a ha b hb e1 => ?_⟩)
    subst e1
    rcases (hf' a ha).2 with h' | h'
    · exact n3 a (by simp [h']) a hb rfl
    · have := hlt a (by simp only [List.mem_append] at hb ⊢; rcases hb with h | h <;> simp [h])
      omega
  · intro b hb
    have : b ∈ f' ∨ b ∈ b2 ++ fs2 := by simp only [List.mem_append] at hb ⊢; rcases hb with h | h | h <;> simp [h]
    rcases this with h | h
    · refine ⟨(hf' b h).1, ?_⟩
      rcases (hf' b h).2 with h' | h'
      · exact .inl (by simp [h'])
      · exact .inr h'
    · have hin : b ∈ b1 ++ [] ++ (b2 ++ fs2) := by simp only [List.mem_append] at h ⊢; rcases h with h | h <;> simp [h]
      exact ⟨Nat.lt_of_lt_of_le (hlt b hin) hfr.size, .inl hin⟩
  · exact ⟨hfr.os, hfr.tape, hfr.output, hfr.size, hfr.drawn, fun b hb hn => hfr.block b hb fun hb' => hn (by simp [hb'])⟩
theorem does_mv2 {va ov : Value} {k j : Nat} (d : Kd α) (h : o.op = .call { callee := .builtin .append, args := #[s, x], argTypes := #[T, T] }) (hv : ev ρ s = some va) (hx : ev ρ x = some (cutv ov j xs.length d.sz))
    (hu : P.underlying T = some (.slice e)) (hs : tsz P e = some d.sz) (hb : tby P e = some by_) (hz : tzero P e = some z) (hzs : z.cells.size = d.sz) (hb0 : Nat.blt 0 by_ = true) (hkj : k ≤ j) (hj : j ≤ xs.length) (hbig : (k + (xs.length - j)) * by_ ≤ 140737488355328)
    (hm : Mem w0 X w (mvC d e ov xs va k :: M)) : Does P ρ w o fun v' w' => Mem w0 X w' (own d e v' (xs.take k ++ xs.drop j) :: M) := fun f hf => by
  have hb0' : 0 < by_ := by simpa [Nat.blt_eq] using hb0
  obtain ⟨F, ⟨cells, b1, b2, fs, hr1, hr2, hk, hE, rfl⟩, hnd, hlt, hclose⟩ := hm.take
  obtain ⟨A, c, hcv, hA⟩ := cut_src (l := j) (h := xs.length) hr1 hE hj (Nat.le_refl _)
  have hcl : cells.take (xs.length * d.sz) = cells := List.take_of_length_le (by rw [hE.length]; exact Nat.le_refl _)
  rw [hcl] at hA
  have hle : k + (xs.length - j) ≤ 140737488355328 := Nat.le_trans (Nat.le_mul_of_pos_right _ hb0') hbig
  have hl1 : (cells.take (k * d.sz)).length = k * d.sz := by rw [List.length_take, hE.length, Nat.min_eq_left (Nat.mul_le_mul_right _ hk)]
  have hl2 : (cells.drop (j * d.sz)).length = (xs.length - j) * d.sz := by rw [List.length_drop, hE.length, Nat.sub_mul]
  obtain ⟨v', w', f', hrun, hrow, hfr, hf', hnd'⟩ := run_app (P := P) (w := w) (T := T) (ty := o.type) (e := e) (m := xs.length - j) (c := c) (A := A) (news := cells.drop (j * d.sz)) hu hs hb hz hzs hr2 hl1 hl2 hA (fun u hu => hE.one u (List.mem_of_mem_drop hu)) hbig (by simp only [maxLen]; omega) (fun b hb => hlt b (by simp [hb]))
  obtain ⟨f1, f2, e1, hE1, hE2⟩ := hE.cut k hk
  obtain ⟨g1, g2, e2, hE3, hE4⟩ := hE.cut j hj
  obtain ⟨n1, n2, n3⟩ := List.nodup_append.1 hnd
  obtain ⟨n4, n5, n6⟩ := List.nodup_append.1 n2
  have hkk : ∀ b ∈ fs, w'.heap[b]? = w.heap[b]? := fun b hb => hfr.block b (hlt b (by simp [hb])) fun hb' => n6 b hb' b hb rfl
  -- the blocks of what stays
  have hsub : ∀ b ∈ g1, True := fun _ _ => trivial
  obtain ⟨p1, p2, e3, hE5, hE6⟩ := hE3.cut k (by rw [List.length_take]; omega)
  rw [List.take_take, Nat.min_eq_left (Nat.mul_le_mul_right _ hkj), List.take_take, Nat.min_eq_left hkj] at hE5
  refine .inl ⟨v', w', ?_, hclose w' (own d e v' (xs.take k ++ xs.drop j)) (f' ++ (p1 ++ g2)) ⟨cells.take (k * d.sz) ++ cells.drop (j * d.sz), f', p1 ++ g2, ?_, rfl, ?_⟩ ?_ ?_ ?_⟩
  · simp only [execOp, h, resolve, invoke, builtin, Sem.run_bind, Sem.run_pure, Result.andThen_ok, List.map_toArray, List.map_cons, List.map_nil, hf.ev _ _ hv, hf.ev _ _ hx, hcv, hrun]
  · have e4 : (xs.take k ++ xs.drop j).length = k + (xs.length - j) := by rw [List.length_append, List.length_take, List.length_drop, Nat.min_eq_left hk]
    rw [e4]; exact hrow
  · exact (hE5.st fun b hb => hkk b (by rw [e2, e3]; simp [hb])).append (hE4.st fun b hb => hkk b (by rw [e2]; simp [hb]))
  · have hs2 : (p1 ++ g2).Sublist fs := by rw [e2, e3, List.append_assoc]; exact List.Sublist.append (.refl _) (List.sublist_append_right _ _)
    refine List.nodup_append.2 ⟨hnd', hs2.nodup n5, fun a ha b hb e5 => ?_⟩
    subst e5
    have hb2 := hs2.subset hb
    rcases (hf' a ha).2 with h' | h'
    · exact n6 a h' a hb2 rfl
    · have := hlt a (by simp [hb2])
      omega
  · intro b hb
    rcases List.mem_append.1 hb with hb | hb
    · refine ⟨(hf' b hb).1, ?_⟩
      rcases (hf' b hb).2 with h' | h'
      · exact .inl (by simp [h'])
      · exact .inr h'
    · have hin : b ∈ fs := by rw [e2, e3]; simp only [List.mem_append] at hb ⊢; rcases hb with h | h <;> simp [h]
      exact ⟨Nat.lt_of_lt_of_le (hlt b (by simp [hin])) hfr.size, .inl (by simp [hin])⟩
  · exact ⟨hfr.os, hfr.tape, hfr.output, hfr.size, hfr.drawn, fun b hb hn => hfr.block b hb fun hb' => hn (by simp [hb'])⟩
def mvC2 (d : Kd α) (T : TypeId) (ov : Value) (xs : List α) (v : Value) (k : Nat) (zs : List α) : Chunk :=
  ⟨fun w f => ∃ cells nc b1 b2 fs gs, RowC w T d.sz ov xs.length cells b1 ∧ RowC w T d.sz v (k + zs.length) (cells.take (k * d.sz) ++ nc) b2 ∧ k ≤ xs.length ∧ Elems d w cells xs fs ∧ Elems d w nc zs gs ∧ f = b1 ++ (b2 ++ (fs ++ gs)), fun ⟨cells, nc, b1, b2, fs, gs, h1, h2, h3, h4, h5, e⟩ hk => by
    subst e
    exact ⟨cells, nc, b1, b2, fs, gs, h1.st fun b hb => hk b (by simp [hb]), h2.st fun b hb => hk b (by simp [hb]), h3, h4.st fun b hb => hk b (by simp [hb]), h5.st fun b hb => hk b (by simp [hb]), rfl⟩⟩
theorem does_mvA {va ov vx : Value} {k : Nat} {ys : List α} (d : Kd α) (h : o.op = .call { callee := .builtin .append, args := #[s, x], argTypes := #[T, T] }) (hv : ev ρ s = some va) (hx : ev ρ x = some vx)
    (hu : P.underlying T = some (.slice e)) (hs : tsz P e = some d.sz) (hb : tby P e = some by_) (hz : tzero P e = some z) (hzs : z.cells.size = d.sz) (hb0 : Nat.blt 0 by_ = true) (hbig : (k + ys.length) * by_ ≤ 140737488355328)
    (hm : Mem w0 X w (mvC d e ov xs va k :: own d e vx ys :: M)) : Does P ρ w o fun v' w' => Mem w0 X w' (mvC2 d e ov xs v' k ys :: M) := fun f hf => by
  have hb0' : 0 < by_ := by simpa [Nat.blt_eq] using hb0
  obtain ⟨F, ⟨g, k', rfl, ⟨cells, b1, b2, fs, hr1, hr2, hk, hE, rfl⟩, ⟨cs2, b3, gs, hr3, rfl, hE2⟩⟩, hnd, hlt, hclose⟩ := hm.star.take
  have hA : ∃ A c, vx = .slice A ys.length c ∧ (ys.length = 0 ∨ ∃ a, A = some a ∧ ∀ j u, cs2[j]? = some u → w.cell? (a.add j) = some u) := by
    rcases hr3 with ⟨A, rfl, h0, rfl, rfl⟩ | ⟨g, c, cur, rfl, hg, h1, _, _, h2, rfl⟩
    · exact ⟨A, 0, by rw [h0], .inl h0⟩
    · refine ⟨_, c, rfl, .inr ⟨_, rfl, fun j u hu => ?_⟩⟩
      have hadd : (⟨g, 0, none⟩ : Addr).add j = ⟨g, j, none⟩ := by unfold Addr.add; split <;> simp_all
      rw [hadd, cell_of_row w g j cur e (0, 0) hg]
      rw [← h2, List.getElem?_take] at hu
      split at hu
      · simpa using hu
      · cases hu
  obtain ⟨A, c, rfl, hA⟩ := hA
  have hle : k + ys.length ≤ 140737488355328 := Nat.le_trans (Nat.le_mul_of_pos_right _ hb0') hbig
  have hl1 : (cells.take (k * d.sz)).length = k * d.sz := by rw [List.length_take, hE.length, Nat.min_eq_left (Nat.mul_le_mul_right _ hk)]
  obtain ⟨v', w', f', hrun, hrow, hfr, hf', hnd'⟩ := run_app (P := P) (w := w) (T := T) (ty := o.type) (e := e) (m := ys.length) (c := c) (A := A) (news := cs2) hu hs hb hz hzs hr2 hl1 hE2.length hA hE2.one hbig (by simp only [maxLen]; omega) (fun b hb => hlt b (by simp [hb]))
  obtain ⟨n1, n2, n3⟩ := List.nodup_append.1 hnd
  obtain ⟨n4, n5, n6⟩ := List.nodup_append.1 n1
  obtain ⟨n7, n8, n9⟩ := List.nodup_append.1 n5
  obtain ⟨n10, n11, n12⟩ := List.nodup_append.1 n2
  have hk1 : ∀ b ∈ b1 ++ fs, w'.heap[b]? = w.heap[b]? := fun b hb => hfr.block b (hlt b (by simp only [List.mem_append] at hb ⊢; rcases hb with h | h <;> simp [h])) fun hb' => by
    rcases List.mem_append.1 hb with h | h
    · exact n6 b h b (by simp [hb']) rfl
    · exact n9 b hb' b h rfl
  have hk2 : ∀ b ∈ gs, w'.heap[b]? = w.heap[b]? := fun b hb => hfr.block b (hlt b (by simp [hb])) fun hb' => n3 b (by simp [hb']) b (by simp [hb]) rfl
  refine .inl ⟨v', w', ?_, hclose w' (mvC2 d e ov xs v' k ys) (b1 ++ (f' ++ (fs ++ gs))) ⟨cells, cs2, b1, f', fs, gs, hr1.st fun b hb => hk1 b (by simp [hb]), hrow, hk, hE.st fun b hb => hk1 b (by simp [hb]), hE2.st hk2, rfl⟩ ?_ ?_ ?_⟩
  · simp only [execOp, h, resolve, invoke, builtin, Sem.run_bind, Sem.run_pure, Result.andThen_ok, List.map_toArray, List.map_cons, List.map_nil, hf.ev _ _ hv, hf.ev _ _ hx, hrun]
  · have hp : (b1 ++ (f' ++ (fs ++ gs))).Perm (f' ++ (b1 ++ (fs ++ gs))) := by
      rw [List.perm_iff_count]; intro a; simp only [List.count_append]; omega
    have hs3 : (b1 ++ (fs ++ gs)).Sublist (b1 ++ (b2 ++ fs) ++ (b3 ++ gs)) := by
      rw [List.append_assoc]
      exact List.Sublist.append (.refl _) (by
        rw [List.append_assoc]
        exact (List.Sublist.append (.refl fs) (List.sublist_append_right b3 gs)).trans (List.sublist_append_right b2 _))
    refine hp.nodup_iff.2 (List.nodup_append.2 ⟨hnd', hs3.nodup hnd, fun a ha b hb e1 => ?_⟩)
    subst e1
    have hin := hs3.subset hb
    rcases (hf' a ha).2 with h' | h'
    · simp only [List.mem_append] at hb
      rcases hb with h | h | h
      · exact n6 a h a (by simp [h']) rfl
      · exact n9 a h' a h rfl
      · exact n3 a (by simp [h']) a (by simp [h]) rfl
    · have := hlt a hin
      omega
  · intro b hb
    have : b ∈ f' ∨ b ∈ b1 ++ (b2 ++ fs) ++ (b3 ++ gs) := by simp only [List.mem_append] at hb ⊢; rcases hb with h | h | h | h <;> simp [h]
    rcases this with h | h
    · refine ⟨(hf' b h).1, ?_⟩
      rcases (hf' b h).2 with h' | h'
      · exact .inl (by simp [h'])
      · exact .inr h'
    · exact ⟨Nat.lt_of_lt_of_le (hlt b h) hfr.size, .inl h⟩
  · exact ⟨hfr.os, hfr.tape, hfr.output, hfr.size, hfr.drawn, fun b hb hn => hfr.block b hb fun hb' => hn (by simp [hb'])⟩
theorem does_mv3 {va ov : Value} {k j : Nat} {zs : List α} (d : Kd α) (h : o.op = .call { callee := .builtin .append, args := #[s, x], argTypes := #[T, T] }) (hv : ev ρ s = some va) (hx : ev ρ x = some (cutv ov j xs.length d.sz))
    (hu : P.underlying T = some (.slice e)) (hs : tsz P e = some d.sz) (hb : tby P e = some by_) (hz : tzero P e = some z) (hzs : z.cells.size = d.sz) (hb0 : Nat.blt 0 by_ = true) (hkj : k ≤ j) (hj : j ≤ xs.length) (hbig : (k + zs.length + (xs.length - j)) * by_ ≤ 140737488355328)
    (hm : Mem w0 X w (mvC2 d e ov xs va k zs :: M)) : Does P ρ w o fun v' w' => Mem w0 X w' (own d e v' (xs.take k ++ zs ++ xs.drop j) :: M) := fun f hf => by
  have hb0' : 0 < by_ := by simpa [Nat.blt_eq] using hb0
  obtain ⟨F, ⟨cells, nc, b1, b2, fs, gs, hr1, hr2, hk, hE, hG, rfl⟩, hnd, hlt, hclose⟩ := hm.take
  obtain ⟨A, c, hcv, hA⟩ := cut_src (l := j) (h := xs.length) hr1 hE hj (Nat.le_refl _)
  have hcl : cells.take (xs.length * d.sz) = cells := List.take_of_length_le (by rw [hE.length]; exact Nat.le_refl _)
  rw [hcl] at hA
  have hle : k + zs.length + (xs.length - j) ≤ 140737488355328 := Nat.le_trans (Nat.le_mul_of_pos_right _ hb0') hbig
  have hl1 : (cells.take (k * d.sz) ++ nc).length = (k + zs.length) * d.sz := by rw [List.length_append, List.length_take, hE.length, Nat.min_eq_left (Nat.mul_le_mul_right _ hk), hG.length, Nat.add_mul]
  have hl2 : (cells.drop (j * d.sz)).length = (xs.length - j) * d.sz := by rw [List.length_drop, hE.length, Nat.sub_mul]
  obtain ⟨v', w', f', hrun, hrow, hfr, hf', hnd'⟩ := run_app (P := P) (w := w) (T := T) (ty := o.type) (e := e) (m := xs.length - j) (c := c) (A := A) (news := cells.drop (j * d.sz)) hu hs hb hz hzs hr2 hl1 hl2 hA (fun u hu => hE.one u (List.mem_of_mem_drop hu)) hbig (by simp only [maxLen]; omega) (fun b hb => hlt b (by simp [hb]))
  obtain ⟨g1, g2, e2, hE3, hE4⟩ := hE.cut j hj
  obtain ⟨p1, p2, e3, hE5, hE6⟩ := hE3.cut k (by rw [List.length_take]; omega)
  rw [List.take_take, Nat.min_eq_left (Nat.mul_le_mul_right _ hkj), List.take_take, Nat.min_eq_left hkj] at hE5
  obtain ⟨n1, n2, n3⟩ := List.nodup_append.1 hnd
  obtain ⟨n4, n5, n6⟩ := List.nodup_append.1 n2
  have hkk : ∀ b ∈ fs ++ gs, w'.heap[b]? = w.heap[b]? := fun b hb => hfr.block b (hlt b (by simp only [List.mem_append] at hb ⊢; rcases hb with h | h <;> simp [h])) fun hb' => n6 b hb' b hb rfl
  have hs2 : (p1 ++ (gs ++ g2)).Perm (p1 ++ g2 ++ gs) := by rw [List.perm_iff_count]; intro a; simp only [List.count_append]; omega
  have hs4 : (p1 ++ g2 ++ gs).Sublist (fs ++ gs) := List.Sublist.append (by rw [e2, e3, List.append_assoc]; exact List.Sublist.append (.refl _) (List.sublist_append_right _ _)) (.refl _)
  refine .inl ⟨v', w', ?_, hclose w' (own d e v' (xs.take k ++ zs ++ xs.drop j)) (f' ++ (p1 ++ gs ++ g2)) ⟨cells.take (k * d.sz) ++ nc ++ cells.drop (j * d.sz), f', p1 ++ gs ++ g2, ?_, rfl, ?_⟩ ?_ ?_ ?_⟩
  · simp only [execOp, h, resolve, invoke, builtin, Sem.run_bind, Sem.run_pure, Result.andThen_ok, List.map_toArray, List.map_cons, List.map_nil, hf.ev _ _ hv, hf.ev _ _ hx, hcv, hrun]
  · have e4 : (xs.take k ++ zs ++ xs.drop j).length = k + zs.length + (xs.length - j) := by rw [List.length_append, List.length_append, List.length_take, List.length_drop, Nat.min_eq_left hk]
    rw [e4]; exact hrow
  · exact ((hE5.st fun b hb => hkk b (by rw [e2, e3]; simp [hb])).append (hG.st fun b hb => hkk b (by simp [hb]))).append (hE4.st fun b hb => hkk b (by rw [e2]; simp [hb]))
  · have hs5 : (p1 ++ gs ++ g2).Nodup := by
      rw [List.append_assoc]; exact hs2.nodup_iff.2 (hs4.nodup n5)
    refine List.nodup_append.2 ⟨hnd', hs5, fun a ha b hb e5 => ?_⟩
    subst e5
    have hb2 : a ∈ fs ++ gs := hs4.subset (hs2.mem_iff.1 (by rw [← List.append_assoc]; exact hb))
    rcases (hf' a ha).2 with h' | h'
    · exact n6 a h' a hb2 rfl
    · have := hlt a (by simp only [List.mem_append] at hb2 ⊢; rcases hb2 with h | h <;> simp [h])
      omega
  · intro b hb
    rcases List.mem_append.1 hb with hb | hb
    · refine ⟨(hf' b hb).1, ?_⟩
      rcases (hf' b hb).2 with h' | h'
      · exact .inl (by simp [h'])
      · exact .inr h'
    · have hb2 : b ∈ fs ++ gs := hs4.subset (hs2.mem_iff.1 (by rw [← List.append_assoc]; exact hb))
      have hin : b ∈ b1 ++ (b2 ++ (fs ++ gs)) := by simp only [List.mem_append] at hb2 ⊢; rcases hb2 with h | h <;> simp [h]
      exact ⟨Nat.lt_of_lt_of_le (hlt b hin) hfr.size, .inl hin⟩
  · exact ⟨hfr.os, hfr.tape, hfr.output, hfr.size, hfr.drawn, fun b hb hn => hfr.block b hb fun hb' => hn (by simp [hb'])⟩
end onto

section short2
variable {P : Program} {ρ : Env} {w w0 : World} {X : List Nat} {M : List Chunk} {o : Oper} {T e : Nat} {x : Operand} {v z : Value} {α : Type} {xs : List α}
theorem Mem.cutO {d : Kd α} {i : Nat} (hi : i ≤ xs.length) (h : Mem w0 X w (own d T v xs :: M)) : Mem w0 X w (own d T (cutv v 0 i d.sz) (xs.take i) :: M) := by
  obtain ⟨F, ⟨cs, b, fs, hr, rfl, hE⟩, hnd, hlt, hclose⟩ := h.take
  obtain ⟨f1, f2, rfl, e1, e2⟩ := hE.cut i hi
  have hlen : (xs.take i).length = i := by rw [List.length_take, Nat.min_eq_left hi]
  have hsub : (b ++ f1).Sublist (b ++ (f1 ++ f2)) := List.Sublist.append (.refl _) (List.sublist_append_left _ _)
  refine hclose w (own d T (cutv v 0 i d.sz) (xs.take i)) (b ++ f1) ⟨cs.take (i * d.sz), b, f1, ?_, rfl, e1⟩ (hsub.nodup hnd) (fun k hk => ⟨hlt k (hsub.subset hk), .inl (hsub.subset hk)⟩) (Fr.refl _ _)
  rw [hlen]
  rcases hr with ⟨A, rfl, h0, rfl, rfl⟩ | ⟨g, c, cur, rfl, hg, h1, h2, h3, h4, rfl⟩
  · have : i = 0 := by omega
    subst this
    exact .inl ⟨A, by rw [cutv_eq]; simp, rfl, by simp, rfl⟩
  · refine .inr ⟨g, c, cur, ?_, hg, by omega, h2, h3, ?_, rfl⟩
    · rw [cutv_eq]
      split <;> simp [add0]
    · rw [← h4, List.take_take, Nat.min_eq_left (Nat.mul_le_mul_right _ hi)]
theorem cutv_cutv {w : World} {d : Kd α} {f : List Nat} {i : Nat} (hi : i ≤ xs.length) (h : OwS d T w v xs f) : cutv (cutv v 0 i d.sz) i xs.length d.sz = cutv v i xs.length d.sz ∧ CapGe (cutv v 0 i d.sz) xs.length ∧ CapGe v i := by
  obtain ⟨cs, b, fs, hr, rfl, hE⟩ := h
  rcases hr with ⟨A, rfl, h0, rfl, rfl⟩ | ⟨g, c, cur, rfl, hg, h1, h2, h3, h4, rfl⟩
  · have : i = 0 := by omega
    subst this
    refine ⟨by simp [cutv], ?_, ⟨A, 0, 0, rfl, Nat.le_refl _, Nat.le_refl _⟩⟩
    rw [cutv_eq, h0]
    exact ⟨_, _, _, rfl, Nat.le_refl _, Nat.le_refl _⟩
  · have e : cutv (.slice (some ⟨g, 0, none⟩) xs.length c) 0 i d.sz = .slice (some ⟨g, 0, none⟩) i c := by
      rw [cutv_eq]
      split <;> simp [add0]
    rw [e]
    exact ⟨by rw [cutv_eq, cutv_eq], ⟨_, _, _, rfl, by omega, h1⟩, ⟨_, _, _, rfl, h1, by omega⟩⟩
theorem does_clearL {zs : List Value} {i : Int} (d : Kd α) (h : o.op = .call { callee := .builtin .clear, args := #[x], argTypes := #[T] }) (hx : ev ρ x = some (cutv v i.toNat xs.length d.sz)) (hu : P.underlying T = some (.slice e)) (hs : tsz P e = some d.sz) (hz : tzero P e = some z) (hzl : z.cells.toList = zs) (hzs : zs.length = d.sz) (h1 : ∀ u ∈ zs, u.oneCell' = true)
    (hi : cutOk i xs.length = true) (hm : Mem w0 X w (own d e v xs :: M)) : Does P ρ w o fun _ w' => Mem w0 X w' (own d e (cutv v 0 i.toNat d.sz) (xs.take i.toNat) :: M) := by
  have hi' := cut_hi hi
  obtain ⟨f, hb, _⟩ := hm.get 0 rfl
  obtain ⟨c1, c2, _⟩ := cutv_cutv hi' hb
  have hlen : (xs.take i.toNat).length = i.toNat := by rw [List.length_take, Nat.min_eq_left hi']
  exact does_clear (n := xs.length) d h (by rw [hlen, c1]; exact hx) hu hs hz hzl hzs h1 (by omega) c2 (hm.cutO hi')
theorem Mem.capI {d : Kd α} {i : Int} (hi : cutOk i xs.length = true) (hm : Mem w0 X w (own d T v xs :: M)) : CapGe v i.toNat := by
  obtain ⟨f, hb, _⟩ := hm.get 0 rfl
  exact (cutv_cutv (cut_hi hi) hb).2.2
end short2
end Go.Proofs.YtecgbhfgkkpmhacGreat.Zk
