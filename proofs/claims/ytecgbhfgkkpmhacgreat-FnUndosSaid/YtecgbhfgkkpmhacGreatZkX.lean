/- More of the calculus: rows of the caller's that a call turns, orders that stay open, numbers of other kinds. No condition. -/
import Derived.Test.YtecgbhfgkkpmhacGreatZk
import Derived.Laws.Cover3
import Derived.Sort.Grow
import Derived.Deep.Draws
import Derived.Laws.BytesArg
namespace Go.Proofs.YtecgbhfgkkpmhacGreat.Zk
set_option linter.unusedVariables false
set_option linter.unusedSimpArgs false
open Go Go.RowKit Go.IntWalk

def hideB (w : World) (F : List Nat) : World := { w with heap := w.heap.mapIdx fun i o => bif F.contains i then .cells #[] 0 (0, 0) else o }
theorem hideB_size (w : World) (F : List Nat) : (hideB w F).heap.size = w.heap.size := by simp [hideB]
theorem hideB_out {w : World} {F : List Nat} {k : Nat} (hk : k ∉ F) : (hideB w F).heap[k]? = w.heap[k]? := by
  simp only [hideB, Array.getElem?_mapIdx]
  cases h : w.heap[k]? <;> simp [hk]
def Olds (wo w0 : World) (X : List Nat) : Prop := ∀ w', Fr w0 X w' → ∀ (k : Nat) (cs : Array Value) (e : TypeId) (fz : Nat × Nat), wo.heap[k]? = some (Obj.cells cs e fz) → cs.size ≠ 0 → w'.heap[k]? = some (Obj.cells cs e fz)
theorem Olds.cell {wo w0 : World} {X : List Nat} (h : Olds wo w0 X) (w' : World) (hf : Fr w0 X w') (p : Addr) (v : Value) (hp : wo.cell? p = some v) : w'.cell? p = some v := by
  have hp' := hp
  unfold World.cell? at hp
  cases ho : wo.heap[p.block]? with
  | none => rw [ho] at hp; simp at hp
  | some ob =>
    cases ob with
    | cells cs e fz =>
      have hs : cs.size ≠ 0 := by
        intro h0
        rw [ho] at hp
        have : cs = #[] := Array.size_eq_zero_iff.1 h0
        subst this
        cases hq : p.spot.isSome <;> simp [hq] at hp
      have hb := h w' hf p.block cs e fz ho hs
      rw [World.cell?_of_block (hb.trans ho.symm)]
      exact hp'
    | _ => rw [ho] at hp; simp at hp
theorem hide_olds (w : World) (F : List Nat) : Olds (hideB w F) w F := fun w' hf k cs e fz h hs => by
  have hk : k ∉ F := fun hk => by
    have h2 : (hideB w F).heap[k]? = (w.heap[k]?).map fun _ => Obj.cells #[] 0 (0, 0) := by
      simp only [hideB, Array.getElem?_mapIdx]
      cases h : w.heap[k]? <;> simp [hk]
    rw [h2] at h
    cases h3 : w.heap[k]? with
    | none => rw [h3] at h; cases h
    | some o =>
      rw [h3] at h
      have h4 := Option.some.inj h
      injection h4 with h5
      subst h5
      exact hs rfl
  rw [hideB_out hk] at h
  have hlt : k < w.heap.size := by
    rcases Nat.lt_or_ge k w.heap.size with h' | h'
    · exact h'
    · rw [Array.getElem?_eq_none h'] at h; cases h
  rw [hf.block k hlt hk]
  exact h
section turn
variable {w0 w w' wo : World} {X : List Nat} {M Ms : List Chunk}
theorem Mem.startX (h : Hold w Ms X) (hn : X.Nodup) (hl : ∀ b ∈ X, b < w.heap.size) : Mem w X w Ms := ⟨Fr.refl _ _, X, h, hn, fun b hb => ⟨hl b hb, .inr hb⟩⟩
theorem Mem.rdo {α : Type} {d : Kd α} {v : Value} {xs : List α} (h : Mem w0 X w M) (ho : Olds wo w0 X) (hr : RdS d wo v xs) : RdS d w v xs := hr.keep (ho.cell w h.fr)
theorem Mem.ato {b o : Nat} {cs : List Value} (h : Mem w0 X w M) (ho : Olds wo w0 X) (hc : CellsAt wo b o cs) : CellsAt w b o cs := hc.keep (ho.cell w h.fr)
theorem Hold.split : ∀ {Ms : List Chunk} {F : List Nat}, Hold w (Ms ++ M) F → ∃ G K, F = G ++ K ∧ Hold w Ms G ∧ Hold w M K
  | [], F, h => ⟨[], F, rfl, .nil, h⟩
  | C :: Ms, _, .cons hc hm => by
    obtain ⟨G, K, rfl, h1, h2⟩ := Hold.split hm
    exact ⟨_, K, (List.append_assoc _ _ _).symm, .cons hc h1, h2⟩
theorem Mem.hide (Ms : List Chunk) (h : Mem w0 X w (Ms ++ M)) : ∃ F, Hold w Ms F ∧ F.Nodup ∧ (∀ b ∈ F, b < w.heap.size) ∧ Mem w0 X (hideB w F) M ∧ (∀ w' Ms', Mem w F w' Ms' → Mem w0 X w' (Ms' ++ M)) := by
  obtain ⟨G, h1, h2, h3⟩ := h.hold
  obtain ⟨F, K, rfl, h4, h5⟩ := Hold.split h1
  obtain ⟨n1, n2, n3⟩ := List.nodup_append.1 h2
  have hX : ∀ b ∈ F, b < w0.heap.size → b ∈ X := fun b hb hlt => by
    rcases (h3 b (List.mem_append_left _ hb)).2 with h' | h'
    · omega
    · exact h'
  have hKF : ∀ b ∈ K, b ∉ F := fun b hb hf => n3 b hf b hb rfl
  refine ⟨F, h4, n1, fun b hb => (h3 b (List.mem_append_left _ hb)).1, ⟨?_, K, h5.st fun b hb => hideB_out (hKF b hb), n2, fun b hb => by rw [hideB_size]; exact h3 b (List.mem_append_right _ hb)⟩, fun w' Ms' k => ?_⟩
  · refine ⟨h.fr.os, h.fr.tape, h.fr.output, by rw [hideB_size]; exact h.fr.size, h.fr.drawn, fun k hk hx => ?_⟩
    rw [hideB_out fun hf => hx (hX k hf hk)]
    exact h.fr.block k hk hx
  · obtain ⟨G', k1, k2, k3⟩ := k.hold
    refine ⟨h.fr.trans k.fr hX, G' ++ K, k1.append (h5.st fun b hb => k.fr.block b (h3 b (List.mem_append_right _ hb)).1 (hKF b hb)), ?_, ?_⟩
    · rw [List.nodup_append]
      refine ⟨k2, n2, fun a ha b hb e => ?_⟩
      subst e
      rcases (k3 a ha).2 with h' | h'
      · have := (h3 a (List.mem_append_right _ hb)).1
        omega
      · exact hKF a hb h'
    · intro b hb
      rcases List.mem_append.1 hb with hb | hb
      · refine ⟨(k3 b hb).1, ?_⟩
        rcases (k3 b hb).2 with h' | h'
        · have := h.fr.size
          exact .inl (by omega)
        · exact (h3 b (List.mem_append_left _ h')).2
      · exact ⟨Nat.lt_of_lt_of_le (h3 b (List.mem_append_right _ hb)).1 k.fr.size, (h3 b (List.mem_append_right _ hb)).2⟩
end turn

theorem Mem.as {w0 w : World} {X : List Nat} {M M' : List Chunk} (h : Mem w0 X w M) (e : M' = M) : Mem w0 X w M' := e ▸ h
section rets
variable {P : Program} {N : Nat} {ρ : Env} {w : World} {fn : Func} {R : Ending → World → Prop}
def rdR (tmps : Array Value) : ResultVar → Sem Value
  | .tmp t => pure (tmps.getD t undef)
  | .cell a t => do loadVar t (← asAddr (tmps.getD a undef))
theorem results_eq (fn : Func) (tmps : Array Value) : results fn tmps = (do let vs ← fn.results.mapM (rdR tmps); pure (if h : vs.size = 1 then vs[0] else .tuple vs)) := by
  unfold results
  congr 2
inductive Rs (P : Program) (ρ : Env) (w : World) : List ResultVar → List Value → Prop where
  | nil : Rs P ρ w [] []
  | tmp {t : Nat} {v : Value} {rs : List ResultVar} {vs : List Value} : look ρ t = some v → Rs P ρ w rs vs → Rs P ρ w (.tmp t :: rs) (v :: vs)
  | cell {t T n b : Nat} {d : TypeDesc} {cs : List Value} {rs : List ResultVar} {vs : List Value} : look ρ t = some (.pointer (some ⟨b, 0, none⟩)) → P.underlying T = some d → aggD d = true → tsz P T = some n → cs.length = n → CellsAt w b 0 cs → Rs P ρ w rs vs → Rs P ρ w (.cell t T :: rs) (.agg cs.toArray :: vs)
  | one {t T b : Nat} {d : TypeDesc} {v : Value} {rs : List ResultVar} {vs : List Value} : look ρ t = some (.pointer (some ⟨b, 0, none⟩)) → P.underlying T = some d → aggD d = false → w.cell? ⟨b, 0, none⟩ = some v → Rs P ρ w rs vs → Rs P ρ w (.cell t T :: rs) (v :: vs)
theorem Rs.run {rs : List ResultVar} {vs : List Value} (h : Rs P ρ w rs vs) {a : Act} (ha : Has a N ρ) : (rs.mapM (rdR a.tmps)).run P w = .ok vs w := by
  induction h with
  | nil => simp
  | @tmp t v rs vs hv _ ih =>
    have h1 := ha.getD hv
    have e : rdR a.tmps (.tmp t) = pure v := by simp at h1; simp [rdR, h1]
    rw [List.mapM_cons, e]
    simp [ih]
  | @cell t T n b d cs rs vs hv hu hag hs hl hc _ ih =>
    have h1 := ha.getD hv
    have h2 := run_load_cells (w := w) hu hag hs hl hc
    have e : (rdR a.tmps (.cell t T)).run P w = .ok (.agg cs.toArray) w := by unfold rdR; simp at h1; simp [h1, h2, asAddr]
    rw [List.mapM_cons]
    simp [e, ih]
  | @one t T b d v rs vs hv hu hag hc _ ih =>
    have h1 := ha.getD hv
    have h2 : (loadVar T ⟨b, 0, none⟩).run P w = .ok v w := by simp [loadVar, run_isAgg hu, hag, hc]
    have e : (rdR a.tmps (.cell t T)).run P w = .ok v w := by unfold rdR; simp at h1; simp [h1, h2, asAddr]
    rw [List.mapM_cons]
    simp [e, ih]
theorem at_rets {rs : List ResultVar} {vs : List Value} (hr : fn.results.toList = rs) (h : Rs P ρ w rs vs) (hn : (vs.length == 1) = false) (hR : R (.returned (.tuple vs.toArray)) w) : At N ρ w (bodyPost P fn R) .ret := fun a ha => by
  subst hr
  refine ⟨ha.defers, .tuple vs.toArray, ?_, hR⟩
  have h1 := h.run ha
  have hn' : ¬ vs.length = 1 := by simpa using hn
  rw [results_eq, ← Array.toArray_toList (xs := fn.results), List.mapM_toArray]
  simp [h1, hn']
end rets

section short
variable {P : Program} {N : Nat} {ρ : Env} {w : World} {Q : Post} {ops : Array Oper} {S : World → Prop} {fuel : Nat} {l l' : Array Bool} {o : Oper} {i d : Nat} {is : List Nat} {plan : List (Nat × Bool)}
theorem ox {v : Value} {w' : World} (ho : ops[i]? = some o) (hg : o.guard = none) (hd : o.dst = some d) (hN : Nat.blt d N = true) (hx : Ex P ρ w o v w') (k : Ops P ops N ((d, v) :: ρ) w' Q is) : Ops P ops N ρ w Q (i :: is) := ops_ex ho (guard_none hg) hd hN hx k
theorem od {R : Value → World → Prop} (ho : ops[i]? = some o) (hg : o.guard = none) (hd : o.dst = some d) (hN : Nat.blt d N = true) (hx : Does P ρ w o R) (k : ∀ v w', R v w' → Ops P ops N ((d, v) :: ρ) w' Q is) : Ops P ops N ρ w Q (i :: is) := ops_does ho (guard_none hg) hd hN hx k
theorem odS {R : World → Prop} (ho : ops[i]? = some o) (hg : o.guard = none) (hd : o.dst = none) (hx : DoesS P ρ w o R) (k : ∀ w', R w' → Ops P ops N ρ w' Q is) : Ops P ops N ρ w Q (i :: is) := ops_doesS ho (guard_none hg) hd hx k
theorem dp {v : Value} (ho : ops[i]? = some o) (hg : o.guard = none) (hd : o.dst = some d) (hN : Nat.blt d N = true) (hy : ∀ {w' : World}, Ex P ρ w' o v w') (hS : S w) (k : DrwP P ops N Q S plan ((d, v) :: ρ) w) : DrwP P ops N Q S ((i, true) :: plan) ρ w := drwp_take ho (guard_none hg) hd hN (fun _ _ => hy) hS k
theorem dt (i : Nat) (l' : Array Bool) {v : Value} (ho : ops[i]? = some o) (hg : o.guard = none) (hd : o.dst = some d) (hN : Nat.blt d N = true) (hc : takeOK ops l l' i = true) (hy : ∀ {w' : World}, Ex P ρ w' o v w') (hS : S w) (k : Drw P ops N Q S fuel l' ((d, v) :: ρ) w) : Drw P ops N Q S (fuel + 1) l ρ w := drw_take ho (guard_none hg) hd hN hc (fun _ _ => hy) hS k
end short

section open_
variable {P : Program} {N : Nat} {ρ : Env} {w : World} {Q : Post} {ops : Array Oper} {S : World → Prop} {fuel : Nat} {l l' : Array Bool} {o : Oper} {i d : Nat}
def Br (P : Program) (ops : Array Oper) (N : Nat) (Q : Post) (S : World → Prop) (fuel : Nat) (l : Array Bool) (ρ : Env) (w : World) (i : Nat) : Prop :=
  ∀ a, Has a N ρ → wpOp P ops (Qn Q) i (fun a' w' => S w' ∧ wpAnyH P .any ops (Qn Q) S fuel (l.setIfInBounds i true) a' w') a w
inductive Brs (P : Program) (ops : Array Oper) (N : Nat) (Q : Post) (S : World → Prop) (fuel : Nat) (l : Array Bool) (ρ : Env) (w : World) : List Nat → Prop where
  | nil : Brs P ops N Q S fuel l ρ w []
  | cons {i : Nat} {is : List Nat} : Br P ops N Q S fuel l ρ w i → Brs P ops N Q S fuel l ρ w is → Brs P ops N Q S fuel l ρ w (i :: is)
theorem Brs.all {is : List Nat} (h : Brs P ops N Q S fuel l ρ w is) : ∀ i ∈ is, Br P ops N Q S fuel l ρ w i := by
  induction h with
  | nil => intro i hi; cases hi
  | cons h1 _ ih => intro i hi; cases hi with
    | head => exact h1
    | tail _ h => exact ih i h
theorem drw_any (is : List Nat) (hc : (Region.ready .any ops l == is) = true) (hne : is.isEmpty = false) (h : Brs P ops N Q S fuel l ρ w is) : Drw P ops N Q S (fuel + 1) l ρ w := fun a ha =>
  wpAnyH_all (by simpa using hc) (by rintro rfl; cases hne) fun i hi => h.all i hi a ha
theorem drw_sub {ρ' : Env} (h : Drw P ops N Q S fuel l ρ' w) (hs : Sub ρ ρ') : Drw P ops N Q S fuel l ρ w := fun a ha => h a (ha.sub hs)
theorem drw_cut0 {l' : Array Bool} {f' : Nat} (ρK : Env) (I : World → Prop) (hK : ∀ w', I w' → Drw P ops N Q S f' l' ρK w') (k : (∀ w', I w' → Drw P ops N Q S f' l' ρK w') → Drw P ops N Q S fuel l ρ w) : Drw P ops N Q S fuel l ρ w := k hK
theorem drw_cut1 {α : Type} {l' : Array Bool} {f' : Nat} (ρK : α → Env) (I : α → World → Prop) (hK : ∀ x w', I x w' → Drw P ops N Q S f' l' (ρK x) w') (k : (∀ x w', I x w' → Drw P ops N Q S f' l' (ρK x) w') → Drw P ops N Q S fuel l ρ w) : Drw P ops N Q S fuel l ρ w := k hK
theorem drw_cut2 {α β : Type} {l' : Array Bool} {f' : Nat} (ρK : α → β → Env) (I : α → β → World → Prop) (hK : ∀ x y w', I x y w' → Drw P ops N Q S f' l' (ρK x y) w') (k : (∀ x y w', I x y w' → Drw P ops N Q S f' l' (ρK x y) w') → Drw P ops N Q S fuel l ρ w) : Drw P ops N Q S fuel l ρ w := k hK
theorem drw_cut3 {α β γ : Type} {l' : Array Bool} {f' : Nat} (ρK : α → β → γ → Env) (I : α → β → γ → World → Prop) (hK : ∀ x y z w', I x y z w' → Drw P ops N Q S f' l' (ρK x y z) w') (k : (∀ x y z w', I x y z w' → Drw P ops N Q S f' l' (ρK x y z) w') → Drw P ops N Q S fuel l ρ w) : Drw P ops N Q S fuel l ρ w := k hK
theorem br_does {R : Value → World → Prop} (ho : ops[i]? = some o) (hg : Guard ops ρ o true) (hd : o.dst = some d) (hN : Nat.blt d N = true) (hl : (l.setIfInBounds i true == l') = true) (hx : Does P ρ w o R)
    (k : ∀ v w', R v w' → S w' ∧ Drw P ops N Q S fuel l' ((d, v) :: ρ) w') : Br P ops N Q S fuel l ρ w i := fun a ha => by
  obtain rfl : _ = l' := by simpa using hl
  unfold wpOp
  simp only [ho, hg a N ha, if_true]
  exact Or.inl (hx.wp ha fun v w' hR => by rw [hd]; exact ⟨(k v w' hR).1, (k v w' hR).2 _ (ha.put v hN)⟩)
theorem br_doesS {R : World → Prop} (ho : ops[i]? = some o) (hg : Guard ops ρ o true) (hd : o.dst = none) (hl : (l.setIfInBounds i true == l') = true) (hx : DoesS P ρ w o R)
    (k : ∀ w', R w' → S w' ∧ Drw P ops N Q S fuel l' ρ w') : Br P ops N Q S fuel l ρ w i := fun a ha => by
  obtain rfl : _ = l' := by simpa using hl
  unfold wpOp
  simp only [ho, hg a N ha, if_true]
  refine Or.inl ?_
  obtain ⟨w', hr, hR⟩ := hx _ ha.evl
  unfold Oper.wp
  rw [hr, Oper.upon_skip, hd]
  exact ⟨(k w' hR).1, (k w' hR).2 _ ha⟩
theorem does_ex' {v : Value} (h : Ex P ρ w o v w) : Does P ρ w o fun v' w' => v = v' ∧ w = w' := fun f hf => .inl ⟨v, w, h f hf, rfl, rfl⟩
end open_

section nums
variable {P : Program} {ρ : Env} {w : World} {o : Oper} {x y : Operand} {t t' : TypeId} {k k' : IntKind} {p q : Int}
theorem ex_conv {src dst : TypeId} (h : o.op = .convert src dst x) (hx : ev ρ x = some (.int k p)) (hs : (P.underlying src).isSome = true) (hd : P.underlying dst = some (.int k')) : Ex P ρ w o (.int k' (k'.wrap p)) w := fun f hf => by
  obtain ⟨d, hd'⟩ := Option.isSome_iff_exists.mp hs
  have e : (convert src dst (.int k p)).run P w = .ok (.int k' (k'.wrap p)) w := by simp [convert, run_underlying hd', run_underlying hd, Conv.intToInt]
  simp [execOp, h, hf.ev _ _ hx, e]
theorem ex_conv64 {src dst : TypeId} (h : o.op = .convert src dst x) (hx : ev ρ x = some (.int k p)) (hs : (P.underlying src).isSome = true) (hd : P.underlying dst = some (.int .i64)) : Ex P ρ w o (.int .i64 (wrap64 p)) w := by
  have := ex_conv (w := w) h hx hs hd
  rw [i64_left] at this
  exact this
theorem ex_quok (h : o.op = .binOp .quo t x y t') (hx : ev ρ x = some (.int k p)) (hy : ev ρ y = some (.int k q)) (h0 : (q != 0) = true) : Ex P ρ w o (.int k (k.wrap (p.tdiv q))) w := fun f hf => by
  have h0' : q ≠ 0 := by simpa using h0
  simp [execOp, h, hf.ev _ _ hx, hf.ev _ _ hy, go_sem, h0']
theorem ex_remk (h : o.op = .binOp .rem t x y t') (hx : ev ρ x = some (.int k p)) (hy : ev ρ y = some (.int k q)) (h0 : (q != 0) = true) : Ex P ρ w o (.int k (p.tmod q)) w := fun f hf => by
  have h0' : q ≠ 0 := by simpa using h0
  simp [execOp, h, hf.ev _ _ hx, hf.ev _ _ hy, go_sem, h0']
theorem ex_shr (h : o.op = .binOp .shr t x y t') (hx : ev ρ x = some (.int k p)) (hy : ev ρ y = some (.int k' q)) (h0 : (decide (0 ≤ q) && decide (q ≤ k.bits)) = true) : Ex P ρ w o (.int k (p / 2 ^ q.toNat)) w := fun f hf => by
  rw [Bool.and_eq_true, decide_eq_true_eq, decide_eq_true_eq] at h0
  have e := Go.shift_shr k k' p q h0.1 h0.2
  simp [execOp, h, hf.ev _ _ hx, hf.ev _ _ hy, eqGuard, binOp, e]
end nums

theorem RdS.isSl {α : Type} {d : Kd α} {w : World} {v : Value} {xs : List α} (h : RdS d w v xs) : IsSl v := by
  obtain ⟨A, c, h, _⟩ := h
  exact ⟨A, _, c, h⟩
section builds
variable {P : Program} {ρ : Env} {w : World} {o : Oper} {T : Nat} {parts : Array (Nat × Operand)} {u u' u'' : Value}
theorem ex_build1 (vs : Value → List (Nat × Value)) (cells : Value → Array Value) (h : o.op = .build T parts) (hv : evp ρ parts.toList = some (vs u)) (hb : ∀ A n c, P.built T (vs (.slice A n c)) = some (cells (.slice A n c))) (hu : IsSl u) : Ex P ρ w o (.agg (cells u)) w := by
  obtain ⟨A, n, c, rfl⟩ := hu
  exact ex_build h hv (hb A n c)
theorem ex_build2 (vs : Value → Value → List (Nat × Value)) (cells : Value → Value → Array Value) (h : o.op = .build T parts) (hv : evp ρ parts.toList = some (vs u u')) (hb : ∀ A n c A' n' c', P.built T (vs (.slice A n c) (.slice A' n' c')) = some (cells (.slice A n c) (.slice A' n' c'))) (hu : IsSl u) (hu' : IsSl u') : Ex P ρ w o (.agg (cells u u')) w := by
  obtain ⟨A, n, c, rfl⟩ := hu
  obtain ⟨A', n', c', rfl⟩ := hu'
  exact ex_build h hv (hb A n c A' n' c')
end builds

section lent
variable {α β : Type}
theorem with1_one {w : World} {sz : Nat} {enc : α → Value → List Value} {inner : α → List β} {d : Kd β} {T : TypeId} {hl : ∀ x v, (enc x v).length = sz} {h1 : ∀ x A n c, ∀ u ∈ enc x (.slice A n c), u.oneCell' = true} :
    ∀ x cs, (Kd.with1 sz enc inner d T hl h1).R w x cs → ∀ u ∈ cs, u.oneCell' = true := by
  rintro x cs ⟨v, rfl, A, c, rfl, _⟩
  exact h1 _ _ _ _
theorem RdS.unlent {w0 w : World} {d : Kd α} {h1 : ∀ x cs, d.R w0 x cs → ∀ u ∈ cs, u.oneCell' = true} {v : Value} {xs : List α} (h : RdS (Kd.lent w0 d h1) w v xs) (hk : ∀ p v, w0.cell? p = some v → w.cell? p = some v) : RdS d w v xs := by
  obtain ⟨A, c, hv, hc, h⟩ := h
  refine ⟨A, c, hv, hc, ?_⟩
  rcases h with h | ⟨b, o, hA, h⟩
  · exact .inl h
  · exact .inr ⟨b, o, hA, fun i hi => by obtain ⟨cs, h1, h2⟩ := h i hi; exact ⟨cs, d.keep h1 hk, h2⟩⟩
end lent

theorem Mem.relent {α : Type} {w0 w : World} {X : List Nat} {M : List Chunk} {d d' : Kd α} {T : TypeId} {v : Value} (hs : d.sz = d'.sz) (h : Mem w0 X w (own d T v [] :: M)) : Mem w0 X w (own d' T v [] :: M) := h.conv fun f hf => by
  obtain ⟨cells, b, fs, h1, e, h2⟩ := hf
  cases h2
  exact ⟨[], b, [], by rw [← hs]; exact h1, e, .nil⟩

section focus
variable {w0 w : World} {X : List Nat} {M : List Chunk} {α β : Type}
def hole (d : Kd α) (enc : Value → List Value) (T : TypeId) (v : Value) (xs : List α) (i : Nat) (u : Value) : Chunk :=
  ⟨fun w f => ∃ b f1 f2 c1 c2, RowC w T d.sz v xs.length (c1 ++ enc u ++ c2) b ∧ f = b ++ (f1 ++ f2) ∧ (enc u).length = d.sz ∧ c1.length = i * d.sz ∧ i < xs.length ∧ Elems d w c1 (xs.take i) f1 ∧ Elems d w c2 (xs.drop (i + 1)) f2, fun ⟨b, f1, f2, c1, c2, h1, e, h2, h3, h4, h5, h6⟩ hk => by
    subst e
    exact ⟨b, f1, f2, c1, c2, h1.st fun k hb => hk k (by simp [hb]), rfl, h2, h3, h4, h5.st fun k hb => hk k (by simp [hb]), h6.st fun k hb => hk k (by simp [hb])⟩⟩
theorem Mem.open1 [Inhabited α] {sz : Nat} {enc : α → Value → List Value} {inner : α → List β} {d : Kd β} {T T' : TypeId} {hl : ∀ x v, (enc x v).length = sz} {h1 : ∀ x A n c, ∀ u ∈ enc x (.slice A n c), u.oneCell' = true} {v : Value} {xs : List α} {i : Int}
    {a : α} (h : Mem w0 X w (own (Kd.with1 sz enc inner d T' hl h1) T v xs :: M)) (hi : idxOk i xs.length = true) (ha : gt xs i = a) :
    ∃ u, CellsAt w (sb v) (so v + i.toNat * sz) (enc a u) ∧ Mem w0 X w (own d T' u (inner a) :: hole (Kd.with1 sz enc inner d T' hl h1) (enc a) T v xs i.toNat u :: M) := by
  subst ha
  obtain ⟨F, h2, h3, h4⟩ := h.hold
  cases h2 with
  | @cons _ _ f F' hc hm =>
    obtain ⟨cells, b, fs, hr, rfl, hE⟩ := hc
    obtain ⟨c1, c, c2, f1, f0, f2, rfl, rfl, hlc, ⟨u, rfl, hO⟩, hE3, hE4⟩ := hE.split (idx_nat hi)
    have hrd : RdS (Kd.with1 sz enc inner d T' hl h1) w v xs := OwS.rd ⟨_, b, _, hr, rfl, hE⟩
    rw [gt_eq (idx_nat hi)]
    refine ⟨u, ?_, h.fr, f0 ++ ((b ++ (f1 ++ f2)) ++ F'), .cons hO (.cons ⟨b, f1, f2, c1, c2, hr, rfl, hl _ _, hlc, idx_nat hi, hE3, hE4⟩ hm), ?_, ?_⟩
    · rcases hr with ⟨A, rfl, hn, hcs, _⟩ | ⟨g, cp, cur, rfl, hg, h5, _, h6, h7, _⟩
      · have := idx_nat hi; omega
      · intro j x hx
        have hlt : j < (enc (xs[i.toNat]'(idx_nat hi)) u).length := (List.getElem?_eq_some_iff.1 hx).1
        have e : cur.toList[i.toNat * sz + j]? = some x := by
          have h8 : (cur.toList.take (xs.length * sz))[i.toNat * sz + j]? = some x := by
            have h7' : cur.toList.take (xs.length * sz) = c1 ++ enc (xs[i.toNat]'(idx_nat hi)) u ++ c2 := h7
            have hlc' : c1.length = i.toNat * sz := hlc
            rw [h7', List.append_assoc, List.getElem?_append_right (by omega), hlc', Nat.add_sub_cancel_left, List.getElem?_append_left hlt]
            exact hx
          rw [List.getElem?_take] at h8
          split at h8
          · exact h8
          · cases h8
        show w.cell? ⟨g, 0 + i.toNat * sz + j, none⟩ = some x
        rw [Nat.zero_add, cell_of_row w g _ cur T (0, 0) hg]
        simpa using e
    · have hp : (f0 ++ ((b ++ (f1 ++ f2)) ++ F')).Perm ((b ++ (f1 ++ f0 ++ f2)) ++ F') := by
        rw [List.perm_iff_count]
        intro a
        simp only [List.count_append]
        omega
      exact hp.nodup_iff.2 h3
    · intro k hk
      refine h4 k ?_
      simp only [List.mem_append] at hk ⊢
      rcases hk with h | (h | h | h) | h <;> simp [h]
end focus

theorem ex_isnil {α : Type} {P : Program} {ρ : Env} {o : Oper} {x y : Operand} {t t' e : TypeId} {d : Kd α} {w1 : World} {v : Value} {xs : List α} (h : o.op = .binOp .eql t x y t') (hx : ev ρ x = some v) (hy : ev ρ y = some (.slice none 0 0)) (hu : P.underlying t = some (.slice e)) (hr : RdS d w1 v xs) :
    ∃ u, (∀ w, Ex P ρ w o u w) ∧ ∃ b, u = .bool b ∧ (b = true → xs = []) := by
  obtain ⟨A, c, rfl, hc, hA⟩ := hr
  refine ⟨.bool A.isNone, fun w f hf => ?_, A.isNone, rfl, fun hb => ?_⟩
  · have e1 : (Op.equal t (.slice A xs.length c) (.slice none 0 0)).run P w = .ok A.isNone w := run_equalIn_slice_nil (w := w) 9999 t e A xs.length c hu
    have e2 : (binOp .eql t (.slice A xs.length c) (.slice none 0 0)).run P w = .ok (.bool A.isNone) w := by
      show ((Op.equal t (.slice A xs.length c) (.slice none 0 0)) >>= fun b => pure (Value.bool b)).run P w = _
      simp [e1]
    simp [execOp, h, hf.ev _ _ hx, hf.ev _ _ hy, eqGuard, e2]
  · rcases hA with hA | ⟨b, o, hA, _⟩
    · exact hA
    · subst hA; cases hb

theorem ex_bstr {P : Program} {ρ : Env} {w : World} {o : Oper} {x : Operand} {src dst e : TypeId} {hl : ∀ x : Int, [Value.int .u8 x].length = 1} {h1 : ∀ x : Int, ∀ u ∈ [Value.int .u8 x], u.oneCell' = true} {v : Value} {xs : List Int} (h : o.op = .convert src dst x) (hx : ev ρ x = some v)
    (hs : P.underlying src = some (.slice e)) (he : P.underlying e = some (.int .u8)) (hd : P.underlying dst = some .string) (hr : RdS (Kd.plain 1 (fun x => [Value.int .u8 x]) hl h1) w v xs) : Ex P ρ w o (.string (strOfNums xs)) w := fun f hf => by
  obtain ⟨A, c, rfl, hc, hA⟩ := hr
  have key : (convert src dst (.slice A xs.length c)).run P w = .ok (.string (strOfNums xs)) w := by
    rcases hA with rfl | ⟨b, off, rfl, hA⟩
    · cases A with
      | none => exact run_convert_bytes_nil w src e hs he 0 c dst hd
      | some a =>
        show (convert src dst (.slice (some a) 0 c)).run P w = .ok (.string (strOfNums [])) w
        rw [run_convert_bytes_string w src dst e _ 0 c hs he hd, run_bytesToString w a 0 c [] (by simp [loadCells, loadCellsFrom])]
        rfl
    · refine run_convert_bytes_arg w src e hs he b off xs.length c xs rfl (fun i hi => ?_) dst hd
      obtain ⟨cs, h2, h3⟩ := hA i hi
      have h2' : cs = [Value.int .u8 xs[i]] := h2
      subst h2'
      have h5 : w.cell? ⟨b, off + i * 1 + 0, none⟩ = some (.int .u8 xs[i]) := h3 0 _ rfl
      simpa [List.getD_eq_getElem?_getD, List.getElem?_eq_getElem hi] using h5
  simp [execOp, h, hf.ev _ _ hx, key]
theorem fr_grow {W w' : World} (hd : DR) (h : Fr W [] w') : ∃ q os', w' = Go.Sort.grow (W.drewN q) os' := by
  refine ⟨w'.drawn - W.drawn, w'.heap.extract W.heap.size w'.heap.size, ?_⟩
  have h1 := h.os; have h2 := h.tape; have h3 := h.output; have h4 := h.size; have h5 := h.drawn hd
  have hh : w'.heap = W.heap ++ w'.heap.extract W.heap.size w'.heap.size := by
    apply Array.ext
    · simp; omega
    · intro i hi1 hi2
      by_cases hlt : i < W.heap.size
      · have := h.block i hlt (by simp)
        rw [Array.getElem_append_left hlt]
        rw [Array.getElem?_eq_getElem hi1, Array.getElem?_eq_getElem hlt] at this
        exact Option.some.inj this
      · rw [Array.getElem_append_right (by omega)]
        simp only [Array.getElem_extract]
        congr 1; omega
  cases w' with
  | mk heap tape drawn os output =>
    cases W with
    | mk heap0 tape0 drawn0 os0 output0 =>
      simp only at h1 h2 h3 h4 h5 hh
      subst h1; subst h2; subst h3
      have e : drawn0 + (drawn - drawn0) = drawn := by omega
      unfold Go.Sort.grow World.drewN
      simp only
      rw [← hh, e]
end Go.Proofs.YtecgbhfgkkpmhacGreat.Zk
