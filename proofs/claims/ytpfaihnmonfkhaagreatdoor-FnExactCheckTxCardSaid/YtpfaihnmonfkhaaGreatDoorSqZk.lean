/- A small calculus over the kit's wp: known temporaries as a list, control, operations one by one, regions that draw. No condition. -/
import Derived.WalkKit
import Derived.OrdersHeld
import Derived.KernelRfl
import Derived.Below
import Derived.IntWalk
import Derived.Laws.Tables
import Derived.Laws.StructEq
import Derived.Laws.Slices
import Derived.Laws.Concat
import Derived.Laws.MakeOwn
import Derived.Laws.OwnMore
import Derived.Deep.LoopGhost
namespace Go.Proofs.YtpfaihnmonfkhaaGreatDoorSq.Zk
set_option linter.unusedVariables false
open Go Go.RowKit Go.IntWalk

abbrev Env := List (Nat × Value)
def look : Env → Nat → Option Value
  | [], _ => none
  | (k, v) :: r, n => match Nat.beq k n with
    | true => some v
    | false => look r n
structure Has (a : Act) (N : Nat) (ρ : Env) : Prop where
  size : a.tmps.size = N
  defers : a.defers = []
  at_ : ∀ n v, look ρ n = some v → a.tmps[n]? = some v
def ev (ρ : Env) : Operand → Option Value
  | .tmp t => look ρ t
  | .const v => some v
  | .global g => some (.pointer (some ⟨g, 0, none⟩))
  | .func f => some (.func (.func f) #[] #[])
def evs (ρ : Env) : List Operand → Option (List Value)
  | [] => some []
  | o :: r => match ev ρ o, evs ρ r with
    | some v, some vs => some (v :: vs)
    | _, _ => none

theorem Has.getD {a : Act} {N : Nat} {ρ : Env} (h : Has a N ρ) {t : Nat} {v : Value} (hv : look ρ t = some v) : a.tmps.getD t undef = v := by
  have := h.at_ t v hv
  simp [Array.getD_eq_getD_getElem?, this]
theorem Has.ev {a : Act} {N : Nat} {ρ : Env} (h : Has a N ρ) {o : Operand} {v : Value} (hv : ev ρ o = some v) : a.eval o = v := by
  cases o with
  | tmp t => exact h.getD hv
  | const c => exact Option.some.inj hv
  | global g => exact Option.some.inj hv
  | func f => exact Option.some.inj hv
theorem Has.put {a : Act} {N : Nat} {ρ : Env} (h : Has a N ρ) {d : Nat} (v : Value) (hd : Nat.blt d N = true) : Has (a.put (some d) v) N ((d, v) :: ρ) := by
  have hd' : d < N := by simpa [Nat.blt_eq] using hd
  refine ⟨by simp [Act.put, h.size], h.defers, fun n u hu => ?_⟩
  unfold look at hu
  cases hb : Nat.beq d n with
  | true =>
    rw [hb] at hu
    cases hu
    have e : d = n := Nat.eq_of_beq_eq_true hb
    subst e
    simp [Act.put, h.size, hd']
  | false =>
    rw [hb] at hu
    have e : d ≠ n := Nat.ne_of_beq_eq_false hb
    have := h.at_ n u hu
    simp [Act.put, Array.getElem?_setIfInBounds_ne e, this]
inductive Sub (ρ : Env) : Env → Prop where
  | nil : Sub ρ []
  | cons {n : Nat} {v : Value} {r : Env} : look ρ n = some v → Sub ρ r → Sub ρ ((n, v) :: r)
theorem Sub.look {ρ ρ' : Env} (h : Sub ρ ρ') : ∀ n v, look ρ' n = some v → Zk.look ρ n = some v := by
  induction h with
  | nil => intro n v hv; cases hv
  | @cons k u r hl _ ih =>
    intro n v hv
    unfold Zk.look at hv
    cases hb : Nat.beq k n with
    | true =>
      rw [hb] at hv
      cases hv
      have e : k = n := Nat.eq_of_beq_eq_true hb
      subst e
      exact hl
    | false => rw [hb] at hv; exact ih n v hv
theorem Has.sub {a : Act} {N : Nat} {ρ ρ' : Env} (h : Has a N ρ) (s : Sub ρ ρ') : Has a N ρ' := ⟨h.size, h.defers, fun n v hv => h.at_ n v (s.look n v hv)⟩
abbrev Post := Exit → Act → World → Prop
def At (N : Nat) (ρ : Env) (w : World) (Q : Post) (e : Exit) : Prop := ∀ a, Has a N ρ → Q e a w
def Run (P : Program) (N : Nat) (ρ : Env) (w : World) (c : Code) (Q : Post) : Prop := ∀ a, Has a N ρ → c.wp P Q a w
def Ops (P : Program) (ops : Array Oper) (N : Nat) (ρ : Env) (w : World) (Q : Post) (is : List Nat) : Prop := ∀ a, Has a N ρ → wpOps P ops Q is a w

variable {P : Program} {N : Nat} {ρ : Env} {w : World} {Q : Post}

theorem run_skip (h : At N ρ w Q .normal) : Run P N ρ w .skip Q := fun a ha => wp_skip (h a ha)
theorem run_ret (h : At N ρ w Q .ret) : Run P N ρ w .ret Q := fun a ha => wp_ret (h a ha)
theorem run_exit {id : Nat} (h : At N ρ w Q (.exit id)) : Run P N ρ w (.exit id) Q := fun a ha => wp_exit (h a ha)
theorem run_seq {x y : Code} (h : Run P N ρ w x (Exit.then (y.wp P Q) Q)) : Run P N ρ w (.seq x y) Q := fun a ha => wp_seq (h a ha)
theorem at_then {y : Code} (h : Run P N ρ w y Q) : At N ρ w (Exit.then (y.wp P Q) Q) .normal := fun a ha => h a ha
theorem at_then_ret {K : Act → World → Prop} (h : At N ρ w Q .ret) : At N ρ w (Exit.then K Q) .ret := h
theorem at_then_exit {K : Act → World → Prop} {id : Nat} (h : At N ρ w Q (.exit id)) : At N ρ w (Exit.then K Q) (.exit id) := h
theorem run_block {id : Nat} {c : Code} (h : Run P N ρ w c (Exit.inBlock id Q)) : Run P N ρ w (.block id c) Q := fun a ha => wp_block (h a ha)
theorem at_block {id : Nat} (h : At N ρ w Q .normal) : At N ρ w (Exit.inBlock id Q) .normal := h
theorem at_block_exit {id : Nat} (h : At N ρ w Q .normal) : At N ρ w (Exit.inBlock id Q) (.exit id) := fun a ha => by
  show (if id = id then _ else _)
  rw [if_pos rfl]
  exact h a ha
theorem at_block_ret {id : Nat} (h : At N ρ w Q .ret) : At N ρ w (Exit.inBlock id Q) .ret := h
theorem run_cond {c : Operand} {x y : Code} {b : Bool} (hc : ev ρ c = some (.bool b)) (ht : b = true → Run P N ρ w x Q) (hf : b = false → Run P N ρ w y Q) :
    Run P N ρ w (.cond c x y) Q := fun a ha => wp_cond_split (ha.ev hc) (fun h => ht h a ha) (fun h => hf h a ha)
theorem run_mid (I : Env → World → Prop) {x y : Code} (h : Run P N ρ w x (Exit.then (fun a w' => ∃ ρ', Has a N ρ' ∧ I ρ' w') Q))
    (k : ∀ ρ' w', I ρ' w' → Run P N ρ' w' y Q) : Run P N ρ w (.seq x y) Q := fun a ha => wp_seq (wp_mono (h a ha) fun e a' w' hq => by
  cases e with
  | normal => obtain ⟨ρ', hs, hi⟩ := hq; exact k ρ' w' hi a' hs
  | _ => exact hq)
theorem at_mid {I : Env → World → Prop} {ρ' : Env} (hi : I ρ' w) (hs : Sub ρ ρ') : At N ρ w (Exit.then (fun a w' => ∃ ρ', Has a N ρ' ∧ I ρ' w') Q) .normal :=
  fun _ ha => ⟨ρ', ha.sub hs, hi⟩
theorem run_loop (I : Nat → Env → World → Prop) {c : Code} (k : Nat) {ρ1 : Env} (hi : I k ρ1 w) (hs : Sub ρ ρ1)
    (round : ∀ k ρ1 w1, I k ρ1 w1 → Run P N ρ1 w1 c (Exit.then (fun a w2 => ∃ k' ρ2, k' < k ∧ Has a N ρ2 ∧ I k' ρ2 w2) Q)) : Run P N ρ w (.loop c) Q := fun _ ha =>
  wp_loop_ghost (fun n a w => ∃ ρ1, Has a N ρ1 ∧ I n ρ1 w) k ⟨ρ1, ha.sub hs, hi⟩ fun n a w ⟨ρ1, hs, hi⟩ => wp_mono (round n ρ1 w hi a hs) fun e a' w' hq => by
    cases e with
    | normal => obtain ⟨k', ρ2, h1, h2, h3⟩ := hq; exact ⟨k', h1, ρ2, h2, h3⟩
    | _ => exact hq
theorem at_again {I : Nat → Env → World → Prop} {k : Nat} (k' : Nat) {ρ1 : Env} (hk : k' < k) (hi : I k' ρ1 w) (hs : Sub ρ ρ1) :
    At N ρ w (Exit.then (fun a w2 => ∃ k' ρ2, k' < k ∧ Has a N ρ2 ∧ I k' ρ2 w2) Q) .normal := fun _ ha => ⟨k', ρ1, hk, ha.sub hs, hi⟩

theorem run_region {id : Nat} {ops : Array Oper} {is : List Nat} (his : List.range ops.size = is) (h : Ops P ops N ρ w Q is) : Run P N ρ w (.region id ops false) Q := fun a ha => by
  subst his
  exact wp_region (h a ha)
variable {ops : Array Oper} {is : List Nat}
theorem ops_nil (h : At N ρ w Q .normal) : Ops P ops N ρ w Q [] := fun a ha => h a ha
structure Ev (f : Operand → Value) (ρ : Env) : Prop where
  ev : ∀ o v, ev ρ o = some v → f o = v
theorem Has.evl {a : Act} (h : Has a N ρ) : Ev a.eval ρ := ⟨fun _ _ hv => h.ev hv⟩
theorem Ev.args {f : Operand → Value} (h : Ev f ρ) : ∀ {os : List Operand} {vs : List Value}, evs ρ os = some vs → os.map f = vs
  | [], vs, hv => by cases hv; rfl
  | o :: r, vs, hv => by
    unfold Zk.evs at hv
    cases h1 : Zk.ev ρ o with
    | none => rw [h1] at hv; cases hv
    | some v =>
      cases h2 : Zk.evs ρ r with
      | none => rw [h1, h2] at hv; cases hv
      | some w =>
        rw [h1, h2] at hv
        cases hv
        rw [List.map_cons, h.ev _ _ h1, Ev.args h h2]
theorem Ev.arr {f : Operand → Value} (h : Ev f ρ) {os : Array Operand} {vs : List Value} (hv : evs ρ os.toList = some vs) : os.map f = vs.toArray := by
  apply Array.ext'
  rw [Array.toList_map, h.args hv]
def Ex (P : Program) (ρ : Env) (w : World) (o : Oper) (v : Value) (w' : World) : Prop := ∀ f, Ev f ρ → (execOp f o).run P w = .ok (.value v) w'
def Guard (ops : Array Oper) (ρ : Env) (o : Oper) (b : Bool) : Prop := ∀ a N, Has a N ρ → Region.wanted o (yielded ops a.tmps) = b
theorem guard_none {o : Oper} (h : o.guard = none) : Guard ops ρ o true := fun a N _ => by simp [Region.wanted, h]
theorem ops_ex {i d : Nat} {o : Oper} {v : Value} {w' : World} (ho : ops[i]? = some o) (hg : Guard ops ρ o true) (hd : o.dst = some d) (hN : Nat.blt d N = true) (hx : Ex P ρ w o v w')
    (k : Ops P ops N ((d, v) :: ρ) w' Q is) : Ops P ops N ρ w Q (i :: is) := fun a ha => by
  simp only [wpOps, ho, hg a N ha, if_true]
  refine Or.inl ?_
  unfold Oper.wp
  rw [hx _ ha.evl, Oper.upon_value, hd]
  exact k _ (ha.put v hN)
theorem ex_move {o : Oper} {x : Operand} {v : Value} (h : o.op = .move x) (hx : ev ρ x = some v) : Ex P ρ w o v w := fun f hf => by
  simp [execOp, h, hf.ev _ _ hx, pure]
theorem ex_assign {o : Oper} {x : Operand} {v : Value} (h : o.op = .assign x) (hx : ev ρ x = some v) : Ex P ρ w o v w := fun f hf => by
  simp [execOp, h, hf.ev _ _ hx, pure]
section ints
variable {o : Oper} {x y : Operand} {t t' : TypeId} {k : IntKind} {p q : Int}
theorem ex_add (h : o.op = .binOp .add t x y t') (hx : ev ρ x = some (.int .i64 p)) (hy : ev ρ y = some (.int .i64 q)) : Ex P ρ w o (.int .i64 (wrap64 (p + q))) w := fun f hf => by
  simp [execOp, h, hf.ev _ _ hx, hf.ev _ _ hy, go_sem, i64_left]
theorem ex_neq (h : o.op = .binOp .neq t x y t') (hx : ev ρ x = some (.int k p)) (hy : ev ρ y = some (.int k q)) : Ex P ρ w o (.bool (p != q)) w := fun f hf => by
  simp [execOp, h, hf.ev _ _ hx, hf.ev _ _ hy, go_sem]
theorem ex_lss (h : o.op = .binOp .lss t x y t') (hx : ev ρ x = some (.int k p)) (hy : ev ρ y = some (.int k q)) : Ex P ρ w o (.bool (decide (p < q))) w := fun f hf => by
  simp [execOp, h, hf.ev _ _ hx, hf.ev _ _ hy, go_sem]
theorem ex_gtr (h : o.op = .binOp .gtr t x y t') (hx : ev ρ x = some (.int k p)) (hy : ev ρ y = some (.int k q)) : Ex P ρ w o (.bool (decide (q < p))) w := fun f hf => by
  simp [execOp, h, hf.ev _ _ hx, hf.ev _ _ hy, go_sem]
end ints

def CellsAt (w : World) (b o : Nat) (cs : List Value) : Prop := ∀ j v, cs[j]? = some v → w.cell? ⟨b, o + j, none⟩ = some v
theorem CellsAt.sub {w : World} {b o : Nat} {cs cs' : List Value} (h : CellsAt w b o cs) (n : Nat) (m : Nat) (he : (cs.drop n).take m = cs') : CellsAt w b (o + n) cs' := by
  subst he
  intro j v hv
  rw [List.getElem?_take] at hv
  split at hv
  · rw [List.getElem?_drop] at hv
    have := h (n + j) v hv
    rw [← Nat.add_assoc] at this
    exact this
  · cases hv
theorem CellsAt.keep {w w' : World} {b o : Nat} {cs : List Value} (h : CellsAt w b o cs) (hk : ∀ p v, w.cell? p = some v → w'.cell? p = some v) : CellsAt w' b o cs := fun j v hv => hk _ _ (h j v hv)
structure Kd (α : Type) where
  sz : Nat
  R : World → α → List Value → Prop
  O : World → α → List Value → List Nat → Prop
  len : ∀ {w x cs}, R w x cs → cs.length = sz
  keep : ∀ {w w' x cs}, R w x cs → (∀ p v, w.cell? p = some v → w'.cell? p = some v) → R w' x cs
  st : ∀ {w w' x cs f}, O w x cs f → (∀ b ∈ f, w'.heap[b]? = w.heap[b]?) → O w' x cs f
  OR : ∀ {w x cs f}, O w x cs f → R w x cs
  one : ∀ {w x cs f}, O w x cs f → ∀ u ∈ cs, u.oneCell' = true
section kinds
variable {α : Type}
def RdS (d : Kd α) (w : World) (v : Value) (xs : List α) : Prop :=
  ∃ A c, v = .slice A xs.length c ∧ xs.length ≤ c ∧ (xs = [] ∨ ∃ b o, A = some ⟨b, o, none⟩ ∧ ∀ i (hi : i < xs.length), ∃ cs, d.R w xs[i] cs ∧ CellsAt w b (o + i * d.sz) cs)
theorem RdS.nil (d : Kd α) (w : World) (A : Option Addr) (c : Nat) : RdS d w (.slice A 0 c) [] := ⟨A, c, rfl, Nat.zero_le _, .inl rfl⟩
def sb : Value → Nat
  | .slice (some a) _ _ => a.block
  | _ => 0
def so : Value → Nat
  | .slice (some a) _ _ => a.off
  | _ => 0
theorem RdS.get {d : Kd α} {w : World} {v : Value} {xs : List α} (h : RdS d w v xs) {i : Nat} (hi : i < xs.length) : ∃ cs, d.R w xs[i] cs ∧ CellsAt w (sb v) (so v + i * d.sz) cs := by
  obtain ⟨A, c, rfl, hc, h⟩ := h
  rcases h with rfl | ⟨b, o, rfl, h⟩
  · cases hi
  · exact h i hi
theorem RdS.addr {d : Kd α} {w : World} {v : Value} {xs : List α} (h : RdS d w v xs) (hi : 0 < xs.length) : ∃ c, v = .slice (some ⟨sb v, so v, none⟩) xs.length c := by
  obtain ⟨A, c, rfl, hc, h⟩ := h
  rcases h with rfl | ⟨b, o, rfl, h⟩
  · cases hi
  · exact ⟨c, rfl⟩
def RowC (w : World) (T : TypeId) (sz : Nat) (v : Value) (n : Nat) (cells : List Value) (f : List Nat) : Prop :=
  (∃ A, v = .slice A 0 0 ∧ n = 0 ∧ cells = [] ∧ f = []) ∨
  ∃ g c cur, v = .slice (some ⟨g, 0, none⟩) n c ∧ w.heap[g]? = some (.cells cur T (0, 0)) ∧ n ≤ c ∧ c ≤ maxLen ∧ cur.size = c * sz ∧ cur.toList.take (n * sz) = cells ∧ f = [g]
inductive Elems (d : Kd α) (w : World) : List Value → List α → List Nat → Prop where
  | nil : Elems d w [] [] []
  | cons {c cs : List Value} {x : α} {xs : List α} {f fs : List Nat} : d.O w x c f → Elems d w cs xs fs → Elems d w (c ++ cs) (x :: xs) (f ++ fs)
def OwS (d : Kd α) (T : TypeId) (w : World) (v : Value) (xs : List α) (f : List Nat) : Prop :=
  ∃ cells b fs, RowC w T d.sz v xs.length cells b ∧ f = b ++ fs ∧ Elems d w cells xs fs
theorem Elems.st {d : Kd α} {w w' : World} {cs : List Value} {xs : List α} {fs : List Nat} (h : Elems d w cs xs fs) (hk : ∀ b ∈ fs, w'.heap[b]? = w.heap[b]?) : Elems d w' cs xs fs := by
  induction h with
  | nil => exact .nil
  | cons ho _ ih => exact .cons (d.st ho fun b hb => hk b (List.mem_append_left _ hb)) (ih fun b hb => hk b (List.mem_append_right _ hb))
theorem Elems.length {d : Kd α} {w : World} {cs : List Value} {xs : List α} {fs : List Nat} (h : Elems d w cs xs fs) : cs.length = xs.length * d.sz := by
  induction h with
  | nil => simp
  | cons ho _ ih => rw [List.length_append, d.len (d.OR ho), ih, List.length_cons, Nat.add_mul, Nat.one_mul, Nat.add_comm]
theorem Elems.split {d : Kd α} {w : World} {cs : List Value} {xs : List α} {fs : List Nat} (h : Elems d w cs xs fs) {i : Nat} (hi : i < xs.length) :
    ∃ c1 c c2 f1 f f2, cs = c1 ++ c ++ c2 ∧ fs = f1 ++ f ++ f2 ∧ c1.length = i * d.sz ∧ d.O w xs[i] c f ∧ Elems d w c1 (xs.take i) f1 ∧ Elems d w c2 (xs.drop (i + 1)) f2 := by
  induction h generalizing i with
  | nil => cases hi
  | @cons c cs x xs f fs ho hs ih =>
    cases i with
    | zero => exact ⟨[], c, cs, [], f, fs, rfl, rfl, by simp, ho, .nil, hs⟩
    | succ i =>
      obtain ⟨c1, c', c2, f1, f', f2, rfl, rfl, h1, h2, h3, h4⟩ := ih (Nat.lt_of_succ_lt_succ hi)
      refine ⟨c ++ c1, c', c2, f ++ f1, f', f2, by simp, by simp, ?_, h2, ?_, h4⟩
      · rw [List.length_append, d.len (d.OR ho), h1, Nat.add_mul, Nat.one_mul, Nat.add_comm]
      · rw [List.take_succ_cons]; exact .cons ho h3
theorem RowC.st {w w' : World} {T : TypeId} {sz n : Nat} {v : Value} {cs : List Value} {f : List Nat} (h : RowC w T sz v n cs f) (hk : ∀ b ∈ f, w'.heap[b]? = w.heap[b]?) : RowC w' T sz v n cs f := by
  rcases h with h | ⟨g, c, cur, hv, hg, h1, h2, h3, h4, rfl⟩
  · exact .inl h
  · exact .inr ⟨g, c, cur, hv, by rw [hk g (by simp)]; exact hg, h1, h2, h3, h4, rfl⟩
theorem OwS.st {d : Kd α} {T : TypeId} {w w' : World} {v : Value} {xs : List α} {f : List Nat} (h : OwS d T w v xs f) (hk : ∀ b ∈ f, w'.heap[b]? = w.heap[b]?) : OwS d T w' v xs f := by
  obtain ⟨cs, b, fs, h1, rfl, h2⟩ := h
  exact ⟨cs, b, fs, h1.st fun k hb => hk k (List.mem_append_left _ hb), rfl, h2.st fun k hb => hk k (List.mem_append_right _ hb)⟩
theorem OwS.rd {d : Kd α} {T : TypeId} {w : World} {v : Value} {xs : List α} {f : List Nat} (h : OwS d T w v xs f) : RdS d w v xs := by
  obtain ⟨cs, b, fs, h1, rfl, h2⟩ := h
  rcases h1 with ⟨A, rfl, hn, rfl, rfl⟩ | ⟨g, c, cur, rfl, hg, h3, _, h4, h5, rfl⟩
  · obtain rfl := List.eq_nil_of_length_eq_zero hn
    exact RdS.nil d w A 0
  · refine ⟨_, c, rfl, h3, ?_⟩
    by_cases he : xs = []
    · exact .inl he
    · refine .inr ⟨g, 0, rfl, fun i hi => ?_⟩
      obtain ⟨c1, c', c2, f1, f', f2, rfl, rfl, h6, h7, _, _⟩ := h2.split hi
      refine ⟨c', d.OR h7, fun j u hu => ?_⟩
      have hlt : j < c'.length := (List.getElem?_eq_some_iff.1 hu).1
      have e : cur.toList[i * d.sz + j]? = some u := by
        have : (cur.toList.take (xs.length * d.sz))[i * d.sz + j]? = some u := by
          rw [h5, List.append_assoc, List.getElem?_append_right (by omega), h6, Nat.add_sub_cancel_left, List.getElem?_append_left hlt]
          exact hu
        rw [List.getElem?_take] at this
        split at this
        · exact this
        · cases this
      rw [Nat.zero_add, cell_of_row w g _ cur T (0, 0) hg]
      simpa using e
def Kd.plain (sz : Nat) (enc : α → List Value) (hl : ∀ x, (enc x).length = sz) (h1 : ∀ x, ∀ u ∈ enc x, u.oneCell' = true) : Kd α where
  sz := sz
  R := fun _ x cs => cs = enc x
  O := fun _ x cs f => cs = enc x ∧ f = []
  len := fun h => by rw [h, hl]
  keep := fun h _ => h
  st := fun h _ => h
  OR := fun h => h.1
  one := fun h u hu => h1 _ u (h.1 ▸ hu)
end kinds

structure Chunk where
  H : World → List Nat → Prop
  st : ∀ {w w' f}, H w f → (∀ b ∈ f, w'.heap[b]? = w.heap[b]?) → H w' f
def box (b : Nat) (T : TypeId) (cs : List Value) : Chunk := ⟨fun w f => f = [b] ∧ w.heap[b]? = some (.cells cs.toArray T (0, 0)), fun ⟨h1, h2⟩ hk => ⟨h1, by subst h1; rw [hk b (by simp)]; exact h2⟩⟩
def own {α : Type} (d : Kd α) (T : TypeId) (v : Value) (xs : List α) : Chunk := ⟨fun w f => OwS d T w v xs f, fun h hk => h.st hk⟩
inductive Hold (w : World) : List Chunk → List Nat → Prop where
  | nil : Hold w [] []
  | cons {C : Chunk} {M : List Chunk} {f F : List Nat} : C.H w f → Hold w M F → Hold w (C :: M) (f ++ F)
theorem Hold.st {w w' : World} {M : List Chunk} {F : List Nat} (h : Hold w M F) (hk : ∀ b ∈ F, w'.heap[b]? = w.heap[b]?) : Hold w' M F := by
  induction h with
  | nil => exact .nil
  | @cons C M f F hc _ ih => exact .cons (C.st hc fun b hb => hk b (List.mem_append_left _ hb)) (ih fun b hb => hk b (List.mem_append_right _ hb))
theorem Hold.append {w : World} {M M' : List Chunk} {F F' : List Nat} (h : Hold w M F) (k : Hold w M' F') : Hold w (M ++ M') (F ++ F') := by
  induction h with
  | nil => exact k
  | cons hc _ ih => rw [List.append_assoc]; exact .cons hc ih
def DR : Prop := True
structure Fr (w0 : World) (X : List Nat) (w : World) : Prop where
  os : w.os = w0.os
  tape : w.tape = w0.tape
  output : w.output = w0.output
  size : w0.heap.size ≤ w.heap.size
  drawn : DR → w0.drawn ≤ w.drawn
  block : ∀ k, k < w0.heap.size → k ∉ X → w.heap[k]? = w0.heap[k]?
theorem Fr.refl (w : World) (X : List Nat) : Fr w X w := ⟨rfl, rfl, rfl, Nat.le_refl _, fun _ => Nat.le_refl _, fun _ _ _ => rfl⟩
theorem Fr.below {w0 w : World} (h : Fr w0 [] w) : Below w0.heap.size w0 w := ⟨h.os, h.tape, h.output, h.size, fun k hk => h.block k hk (by simp)⟩
theorem Fr.trans {w0 w w' : World} {X Y : List Nat} (h : Fr w0 X w) (k : Fr w Y w') (hY : ∀ b ∈ Y, b < w0.heap.size → b ∈ X) : Fr w0 X w' :=
  ⟨k.os.trans h.os, k.tape.trans h.tape, k.output.trans h.output, Nat.le_trans h.size k.size, fun d => Nat.le_trans (h.drawn d) (k.drawn d), fun b hb hx => (k.block b (Nat.lt_of_lt_of_le hb h.size) fun hy => hx (hY b hy hb)).trans (h.block b hb hx)⟩
structure Mem (w0 : World) (X : List Nat) (w : World) (M : List Chunk) : Prop where
  fr : Fr w0 X w
  hold : ∃ F, Hold w M F ∧ F.Nodup ∧ ∀ b ∈ F, b < w.heap.size ∧ (w0.heap.size ≤ b ∨ b ∈ X)
theorem Mem.start (w : World) : Mem w [] w [] := ⟨Fr.refl _ _, [], .nil, List.nodup_nil, by simp⟩
section mem
variable {w0 w w' : World} {X : List Nat} {M M' : List Chunk} {C C' D : Chunk}
theorem Mem.below (h : Mem w0 [] w M) : Below w0.heap.size w0 w := h.fr.below
theorem Mem.old (h : Mem w0 [] w M) : ∀ p v, w0.cell? p = some v → w.cell? p = some v := fun p v hv => (h.below.cell (World.block_lt_of_cell? w0 p hv)).trans hv
theorem Mem.at_ {b o : Nat} {cs : List Value} (h : Mem w0 [] w M) (hc : CellsAt w0 b o cs) : CellsAt w b o cs := hc.keep h.old
theorem Mem.grow (h : Mem w0 X w M) (k : Fr w [] w') : Mem w0 X w' M := by
  obtain ⟨F, h1, h2, h3⟩ := h.hold
  refine ⟨h.fr.trans k (by simp), F, h1.st fun b hb => k.block b (h3 b hb).1 (by simp), h2, fun b hb => ⟨Nat.lt_of_lt_of_le (h3 b hb).1 k.size, (h3 b hb).2⟩⟩
theorem Mem.call (h : Mem w0 X w M) (k : Mem w [] w' M') : Mem w0 X w' (M' ++ M) := by
  obtain ⟨F, h1, h2, h3⟩ := h.hold
  obtain ⟨G, k1, k2, k3⟩ := k.hold
  refine ⟨h.fr.trans k.fr (by simp), G ++ F, k1.append (h1.st fun b hb => k.fr.block b (h3 b hb).1 (by simp)), ?_, ?_⟩
  · rw [List.nodup_append]
    refine ⟨k2, h2, fun a ha b hb => ?_⟩
    have h5 := (k3 a ha).2
    have := (h3 b hb).1
    simp only [List.not_mem_nil, or_false] at h5
    omega
  · intro b hb
    rcases List.mem_append.1 hb with hb | hb
    · have h5 := (k3 b hb).2
      have := h.fr.size
      simp only [List.not_mem_nil, or_false] at h5
      exact ⟨(k3 b hb).1, .inl (by omega)⟩
    · exact ⟨Nat.lt_of_lt_of_le (h3 b hb).1 k.fr.size, (h3 b hb).2⟩
theorem Hold.front {C : Chunk} : ∀ {M M' : List Chunk} {F : List Nat} (j : Nat), M[j]? = some C → M.eraseIdx j = M' → Hold w M F → ∃ f G, C.H w f ∧ Hold w M' G ∧ (f ++ G).Perm F
  | [], _, _, _, hj, _, _ => by simp at hj
  | D :: M, M', _, 0, hj, he, .cons (f := f) (F := F) hc hm => by
    simp at hj he
    subst hj; subst he
    exact ⟨f, F, hc, hm, .refl _⟩
  | D :: M, M', _, j + 1, hj, he, .cons (f := f) (F := F) hc hm => by
    simp at hj he
    subst he
    obtain ⟨f', G, h1, h2, h3⟩ := Hold.front j hj rfl hm
    refine ⟨f', f ++ G, h1, .cons hc h2, ?_⟩
    rw [← List.append_assoc]
    exact ((List.perm_append_comm).append_right G).trans (by rw [List.append_assoc]; exact h3.append_left f)
theorem Mem.front (h : Mem w0 X w M) (j : Nat) (hj : M[j]? = some C) (he : M.eraseIdx j = M') : Mem w0 X w (C :: M') := by
  obtain ⟨F, h1, h2, h3⟩ := h.hold
  obtain ⟨f, G, k1, k2, k3⟩ := Hold.front j hj he h1
  exact ⟨h.fr, f ++ G, .cons k1 k2, (k3.nodup_iff).2 h2, fun b hb => h3 b (k3.mem_iff.1 hb)⟩
theorem Mem.drop (h : Mem w0 X w (C :: M)) : Mem w0 X w M := by
  obtain ⟨F, h1, h2, h3⟩ := h.hold
  cases h1 with
  | cons hc hm => exact ⟨h.fr, _, hm, (List.nodup_append.1 h2).2.1, fun b hb => h3 b (List.mem_append_right _ hb)⟩
theorem Mem.get (h : Mem w0 X w M) (j : Nat) (hj : M[j]? = some C) : ∃ f, C.H w f ∧ f.Nodup ∧ ∀ b ∈ f, b < w.heap.size ∧ (w0.heap.size ≤ b ∨ b ∈ X) := by
  obtain ⟨F, h1, h2, h3⟩ := (h.front j hj rfl).hold
  cases h1 with
  | cons hc _ => exact ⟨_, hc, (List.nodup_append.1 h2).1, fun b hb => h3 b (List.mem_append_left _ hb)⟩
def Chunk.star (C D : Chunk) : Chunk := ⟨fun w f => ∃ g k, f = g ++ k ∧ C.H w g ∧ D.H w k, fun ⟨g, k, e, h1, h2⟩ hk => by
  subst e
  exact ⟨g, k, rfl, C.st h1 fun b hb => hk b (List.mem_append_left _ hb), D.st h2 fun b hb => hk b (List.mem_append_right _ hb)⟩⟩
theorem Mem.star (h : Mem w0 X w (C :: D :: M)) : Mem w0 X w (C.star D :: M) := by
  obtain ⟨F, h1, h2, h3⟩ := h.hold
  cases h1 with
  | cons hc hm => cases hm with
    | cons hd hm => exact ⟨h.fr, _, .cons ⟨_, _, rfl, hc, hd⟩ hm, by rw [List.append_assoc]; exact h2, fun b hb => h3 b (by rw [← List.append_assoc]; exact hb)⟩
theorem Mem.conv (h : Mem w0 X w (C :: M)) (k : ∀ f, C.H w f → C'.H w f) : Mem w0 X w (C' :: M) := by
  obtain ⟨F, h1, h2, h3⟩ := h.hold
  cases h1 with
  | cons hc hm => exact ⟨h.fr, _, .cons (k _ hc) hm, h2, h3⟩
theorem Mem.box_at {b : Nat} {T : TypeId} {cs : List Value} (h : Mem w0 X w M) (j : Nat) (hj : M[j]? = some (box b T cs)) : CellsAt w b 0 cs := by
  obtain ⟨f, ⟨_, hb⟩, _⟩ := h.get j hj
  intro i v hv
  rw [Nat.zero_add, cell_of_row w b i cs.toArray T (0, 0) hb]
  simpa using hv
theorem Mem.own_rd {α : Type} {d : Kd α} {T : TypeId} {v : Value} {xs : List α} (h : Mem w0 X w M) (j : Nat) (hj : M[j]? = some (own d T v xs)) : RdS d w v xs := by
  obtain ⟨f, hb, _⟩ := h.get j hj
  exact OwS.rd hb
theorem Mem.alloc (h : Mem w0 X w M) (o : Obj) (hC : C.H (w.alloc o) [w.heap.size]) : Mem w0 X (w.alloc o) (C :: M) := by
  have k : Mem w [] (w.alloc o) [C] := by
    refine ⟨⟨rfl, rfl, rfl, by simp, fun _ => Nat.le_refl _, fun b hb _ => Below.heap_alloc _ _ _ hb⟩, [w.heap.size] ++ [], .cons hC .nil, by simp, fun b hb => ?_⟩
    simp at hb
    subst hb
    simp
  exact h.call k
end mem

def tsz (P : Program) (t : TypeId) : Option Nat := (P.info? t).map (·.size)
theorem run_sizeOf {t n : Nat} (h : tsz P t = some n) : (sizeOf t).run P w = .ok n w := by
  unfold tsz at h
  cases hi : P.info? t with
  | none => rw [hi] at h; cases h
  | some i => rw [hi] at h; cases h; simp [sizeOf, typeInfo, hi]
def aggD : TypeDesc → Bool
  | .struct _ | .array _ _ => true
  | _ => false
theorem run_isAgg {t : Nat} {d : TypeDesc} (h : P.underlying t = some d) : (isAgg t).run P w = .ok (aggD d) w := by
  simp only [isAgg, Sem.run_bind, run_underlying h, Result.andThen_ok]
  cases d <;> rfl
section memops
variable {o : Oper}
theorem ex_load1 {t : TypeId} {p : Operand} {d : TypeDesc} {b off : Nat} {v : Value} (h : o.op = .load t p) (hp : ev ρ p = some (.pointer (some ⟨b, off, none⟩))) (hu : P.underlying t = some d) (ha : aggD d = false)
    (hc : w.cell? ⟨b, off, none⟩ = some v) : Ex P ρ w o v w := fun f hf => by
  simp [execOp, h, hf.ev _ _ hp, Instr.loadAt, Instr.sureAddr, loadVar, run_isAgg hu, ha, hc]
theorem ex_loadN {t : TypeId} {p : Operand} {d : TypeDesc} {b off n : Nat} {cs : List Value} (h : o.op = .load t p) (hp : ev ρ p = some (.pointer (some ⟨b, off, none⟩))) (hu : P.underlying t = some d) (ha : aggD d = true)
    (hs : tsz P t = some n) (hl : cs.length = n) (hc : CellsAt w b off cs) : Ex P ρ w o (.agg cs.toArray) w := fun f hf => by
  subst hl
  have hr := run_loadCells_list (P := P) (w := w) ⟨b, off, none⟩ cs (fun j v hv => by
    have := hc j v hv
    have e : (⟨b, off, none⟩ : Addr).add j = ⟨b, off + j, none⟩ := by unfold Addr.add; split <;> simp_all
    rw [e]; exact this)
  simp [execOp, h, hf.ev _ _ hp, Instr.loadAt, Instr.sureAddr, loadVar, run_isAgg hu, ha, run_sizeOf hs, hr]
theorem ex_fieldAddr {s : TypeId} {p : Operand} {j b off off' n : Nat} {fs : Array Field} {fd : Field} (h : o.op = .fieldAddr s p j) (hp : ev ρ p = some (.pointer (some ⟨b, off, none⟩))) (hu : P.underlying s = some (.struct fs))
    (hj : fs[j]? = some fd) (hs : tsz P fd.type = some (n + 1)) (ho : off + fd.offset = off') : Ex P ρ w o (.pointer (some ⟨b, off', none⟩)) w := fun f hf => by
  subst ho
  have e : (⟨b, off, none⟩ : Addr).add fd.offset = ⟨b, off + fd.offset, none⟩ := by unfold Addr.add; split <;> simp_all
  simp [execOp, h, hf.ev _ _ hp, Instr.fieldAt, Instr.sureAddr, run_underlying hu, hj, fieldPlace, run_sizeOf hs, e]
theorem ex_len {x : Operand} {T e : TypeId} {α : Type} {d : Kd α} {w1 : World} {v : Value} {xs : List α} (h : o.op = .call { callee := .builtin .len, args := #[x], argTypes := #[T] }) (hx : ev ρ x = some v) (hu : P.underlying T = some (.slice e)) (hr : RdS d w1 v xs) :
    Ex P ρ w o (.int .i64 xs.length) w := fun f hf => by
  obtain ⟨A, c, rfl, _⟩ := hr
  simp [execOp, h, resolve, invoke, builtin, hf.ev _ _ hx, Builtin.len_, run_underlying hu, goInt]
theorem ex_indexAddr {T e : TypeId} {x ix : Operand} {α : Type} {d : Kd α} {w1 : World} {v : Value} {xs : List α} {i : Int} {k : IntKind} (h : o.op = .indexAddr T x ix) (hx : ev ρ x = some v) (hi : ev ρ ix = some (.int k i)) (hu : P.underlying T = some (.slice e))
    (hs : tsz P e = some d.sz) (hr : RdS d w1 v xs) (h0 : 0 ≤ i) (h1 : i < xs.length) : Ex P ρ w o (.pointer (some ⟨sb v, so v + i.toNat * d.sz, none⟩)) w := fun f hf => by
  obtain ⟨c, hv⟩ := hr.addr (by omega)
  generalize sb v = b at *
  generalize so v = off at *
  subst hv
  have e1 : (⟨b, off, none⟩ : Addr).add (i.toNat * d.sz) = ⟨b, off + i.toNat * d.sz, none⟩ := by unfold Addr.add; split <;> simp_all
  simp [execOp, h, hf.ev _ _ hx, hf.ev _ _ hi, Instr.indexAt, asIntOf, run_underlying hu, h0, h1, run_sizeOf hs, e1]
def Does (P : Program) (ρ : Env) (w : World) (o : Oper) (R : Value → World → Prop) : Prop :=
  ∀ f, Ev f ρ → (∃ v w', (execOp f o).run P w = .ok (.value v) w' ∧ R v w') ∨ (∃ g args, (execOp f o).run P w = .ok (.enter g args) w ∧ Calls P g args w fun e w' => ∃ v, e = .returned v ∧ R v w')
theorem Does.wp {R : Value → World → Prop} (h : Does P ρ w o R) {a : Act} {K : Act → World → Prop} (ha : Has a N ρ) (k : ∀ v w', R v w' → K (a.put o.dst v) w') : o.wp P a w K Q := by
  unfold Oper.wp
  rcases h _ ha.evl with ⟨v, w', hr, hR⟩ | ⟨g, args, hr, hc⟩
  · rw [hr, Oper.upon_value]
    exact k v w' hR
  · rw [hr, Oper.upon_enter]
    refine hc.mono fun e w' he => ?_
    obtain ⟨v, rfl, hR⟩ := he
    exact k v w' hR
theorem ops_does {i d : Nat} {R : Value → World → Prop} (ho : ops[i]? = some o) (hg : Guard ops ρ o true) (hd : o.dst = some d) (hN : Nat.blt d N = true) (hx : Does P ρ w o R)
    (k : ∀ v w', R v w' → Ops P ops N ((d, v) :: ρ) w' Q is) : Ops P ops N ρ w Q (i :: is) := fun a ha => by
  simp only [wpOps, ho, hg a N ha, if_true]
  exact Or.inl (hx.wp ha fun v w' hR => by rw [hd]; exact k v w' hR _ (ha.put v hN))
theorem does_call {g : FuncId} {fn : Func} {as : Array Operand} {ts : Array TypeId} {vs : List Value} {R : Value → World → Prop} (h : o.op = .call { callee := .value (.func g), args := as, argTypes := ts })
    (hf : P.funcs[g]? = some fn) (hn : (fn.name == "runtime.NumGoroutine") = false) (hb : fn.body.isSome = true) (hv : evs ρ as.toList = some vs)
    (hc : Calls P g vs.toArray w fun e w' => ∃ v, e = .returned v ∧ R v w') : Does P ρ w o R := fun f he => by
  refine .inr ⟨g, vs.toArray, ?_, hc⟩
  have h1 : fn.name ≠ "runtime.NumGoroutine" := by simpa using hn
  obtain ⟨c, hc⟩ := Option.isSome_iff_exists.1 hb
  have hv' : as.map f = vs.toArray := he.arr hv
  have hg : f (.func g) = .func (.func g) #[] #[] := he.ev _ _ rfl
  simp [execOp, h, resolve, Deferred.ofValue, invoke, hg, hv', callFunc, hf, h1, hc]
variable {w0 : World} {X : List Nat} {M : List Chunk}
theorem does_box {T : TypeId} {x : Operand} {v : Value} {cs : List Value} (h : o.op = .box T x) (hx : ev ρ x = some v) (hc : v.cells.toList = cs) (hm : Mem w0 X w M) :
    Does P ρ w o fun u w' => ∃ b, u = .pointer (some ⟨b, 0, none⟩) ∧ Mem w0 X w' (box b T cs :: M) := fun f hf => by
  subst hc
  refine .inl ⟨.pointer (some ⟨w.heap.size, 0, none⟩), w.alloc (.cells v.cells T), ?_, w.heap.size, rfl, hm.alloc _ ⟨rfl, by simpa using heap_alloc_new w _⟩⟩
  simp [execOp, h, Instr.box, newVar, newRow, hf.ev _ _ hx]
def IsSl (u : Value) : Prop := ∃ A n c, u = .slice A n c
end memops

section rows
variable {o : Oper} {w0 : World} {X : List Nat} {M : List Chunk} {α : Type}
end rows


def evp (ρ : Env) : List (Nat × Operand) → Option (List (Nat × Value))
  | [] => some []
  | (i, o) :: r => match ev ρ o, evp ρ r with
    | some v, some vs => some ((i, v) :: vs)
    | _, _ => none
theorem Ev.parts {f : Operand → Value} (h : Ev f ρ) : ∀ {os : List (Nat × Operand)} {vs : List (Nat × Value)}, evp ρ os = some vs → (os.map fun (i, x) => (i, f x)) = vs
  | [], vs, hv => by cases hv; rfl
  | (i, o) :: r, vs, hv => by
    unfold evp at hv
    cases h1 : Zk.ev ρ o with
    | none => rw [h1] at hv; cases hv
    | some v =>
      cases h2 : evp ρ r with
      | none => rw [h1, h2] at hv; cases hv
      | some w =>
        rw [h1, h2] at hv
        cases hv
        rw [List.map_cons, Ev.parts h h2]
        show (i, f o) :: w = _
        rw [h.ev _ _ h1]
theorem Ev.parr {f : Operand → Value} (h : Ev f ρ) {os : Array (Nat × Operand)} {vs : List (Nat × Value)} (hv : evp ρ os.toList = some vs) : (os.map fun (i, x) => (i, f x)) = vs.toArray := by
  apply Array.ext'
  rw [Array.toList_map, h.parts hv]
section more
variable {o : Oper} {w0 : World} {X : List Nat} {M : List Chunk} {α : Type}
def emp : Chunk := ⟨fun _ f => f = [], fun h _ => h⟩
theorem Mem.emp (h : Mem w0 X w M) : Mem w0 X w (emp :: M) := ⟨h.fr, by obtain ⟨F, h1, h2, h3⟩ := h.hold; exact ⟨[] ++ F, .cons rfl h1, h2, h3⟩⟩
theorem does_lit {C : Chunk} {T e len : Nat} {parts : Array (Nat × Operand)} {vs : List (Nat × Value)} {cs : List Value} {xs : List α} (d : Kd α) (h : o.op = .buildSlice T len parts) (hv : evp ρ parts.toList = some vs)
    (hr : ∀ w, (Instr.buildSlice T len vs.toArray).run P w = .ok (.slice (some ⟨w.heap.size, 0, none⟩) len len) (w.alloc (.cells cs.toArray e)))
    (hlen : xs.length = len) (hbig : Nat.ble len 1000000 = true) (hC : ∀ w f, C.H w f → Elems d w cs xs f) (hm : Mem w0 X w (C :: M)) : Does P ρ w o fun v w' => Mem w0 X w' (own d e v xs :: M) := fun f hf => by
  have hbig' : len ≤ 1000000 := Nat.le_of_ble_eq_true hbig
  subst hlen
  refine .inl ⟨_, _, by simp only [execOp, h, hf.parr hv, Sem.run_bind, hr, Result.andThen_ok]; rfl, ?_⟩
  have h1 : Mem w0 X (w.alloc (.cells cs.toArray e)) (C :: M) := hm.grow ⟨rfl, rfl, rfl, by simp, fun _ => Nat.le_refl _, fun b hb _ => Below.heap_alloc _ _ _ hb⟩
  have h2 := hm.alloc (C := box w.heap.size e cs) (.cells cs.toArray e) ⟨rfl, by simpa using heap_alloc_new w _⟩
  refine h2.star.conv fun f ⟨g, k, e1, ⟨e2, h3⟩, h4⟩ => ?_
  subst e1; subst e2
  have hE := hC _ _ h4
  have hcl := hE.length
  refine ⟨cs, [w.heap.size], k, .inr ⟨w.heap.size, xs.length, _, rfl, h3, Nat.le_refl _, ?_, ?_, ?_, rfl⟩, rfl, hE⟩
  · simp only [maxLen]; omega
  · simpa using hcl
  · rw [← hcl]; simp
end more


section more2
variable {o : Oper} {w0 : World} {X : List Nat} {M : List Chunk} {α : Type}
end more2


section more3
variable {o : Oper} {w0 : World} {X : List Nat} {M : List Chunk} {α : Type}
def env0 : Nat → List Value → Env
  | _, [] => []
  | n, v :: r => (n, v) :: env0 (n + 1) r
theorem look_env0 : ∀ (vs : List Value) (n k : Nat) (v : Value), look (env0 n vs) k = some v → n ≤ k ∧ vs[k - n]? = some v
  | [], _, _, _, h => by cases h
  | u :: r, n, k, v, h => by
    unfold env0 look at h
    cases hb : Nat.beq n k with
    | true =>
      rw [hb] at h
      cases h
      have e : n = k := Nat.eq_of_beq_eq_true hb
      subst e
      simp
    | false =>
      rw [hb] at h
      have e : n ≠ k := Nat.ne_of_beq_eq_false hb
      obtain ⟨h1, h2⟩ := look_env0 r (n + 1) k v h
      refine ⟨by omega, ?_⟩
      have e2 : k - n = (k - (n + 1)) + 1 := by omega
      rw [e2]; simpa using h2
theorem calls_run {f : FuncId} {fn : Func} {c : Code} {args : List Value} {R : Ending → World → Prop} (hf : P.funcs[f]? = some fn) (hb : fn.body = some c) (hN : fn.ntmps = N) (hl : Nat.ble args.length N = true) (hρ : env0 0 args = ρ) (h : Run P N ρ w c (bodyPost P fn R)) : Calls P f args.toArray w R := by
  subst hρ; subst hN
  have hl' : args.length ≤ fn.ntmps := Nat.le_of_ble_eq_true hl
  refine calls_of_wp hf hb (h _ ⟨by simp; omega, rfl, fun n v hv => ?_⟩)
  obtain ⟨_, h2⟩ := look_env0 args 0 n v hv
  rw [Nat.sub_zero] at h2
  obtain ⟨hlt, h3⟩ := List.getElem?_eq_some_iff.1 h2
  simp [Array.getElem?_append, hlt, h3]
variable {fn : Func} {R : Ending → World → Prop}
theorem at_ret1 {t : Nat} {v : Value} (hr : fn.results = #[.tmp t]) (hv : look ρ t = some v) (hR : R (.returned v) w) : At N ρ w (bodyPost P fn R) .ret := fun a ha =>
  ⟨ha.defers, v, by have := ha.getD hv; simp [results, hr, go_sem] at this ⊢; exact this, hR⟩
end more3


section cells
variable {fn : Func} {R : Ending → World → Prop} {w0 : World} {X : List Nat} {M : List Chunk}
end cells

def Qn (Q : Post) : Post := fun e a w => match e with
  | .normal => Q .normal a w
  | _ => False
def Drw (P : Program) (ops : Array Oper) (N : Nat) (Q : Post) (S : World → Prop) (fuel : Nat) (l : Array Bool) (ρ : Env) (w : World) : Prop := ∀ a, Has a N ρ → wpAnyH P .any ops (Qn Q) S fuel l a w
theorem run_draw {id n : Nat} {l : Array Bool} (S : World → Prop) (hm : P.follows .mixedOrders = true) (hn : ops.size = n) (hl : Array.replicate n false = l) (h : Drw P ops N Q S n l ρ w.drew) : Run P N ρ w (.region id ops true) Q := fun a ha => by
  subst hn; subst hl
  exact wp_mono (wp_region_held hm (h a ha)) fun e a' w' hq => by cases e <;> first | exact hq | exact hq.elim
theorem fr_drew (w : World) : Fr w [] w.drew := ⟨rfl, rfl, rfl, Nat.le_refl _, fun _ => Nat.le_succ _, fun _ _ _ => rfl⟩
section drw
variable {S : World → Prop} {fuel : Nat} {l l' : Array Bool} {o : Oper} {i d : Nat}
def takeOK (ops : Array Oper) (l l' : Array Bool) (i : Nat) : Bool := Region.noSelect ops && Region.free .any ops l i && (Region.ready .any ops l).contains i && (l.setIfInBounds i true == l')
theorem drw_take {v : Value} (ho : ops[i]? = some o) (hg : Guard ops ρ o true) (hd : o.dst = some d) (hN : Nat.blt d N = true) (hc : takeOK ops l l' i = true) (hy : ∀ w', S w' → Ex P ρ w' o v w') (hS : S w)
    (k : Drw P ops N Q S fuel l' ((d, v) :: ρ) w) : Drw P ops N Q S (fuel + 1) l ρ w := fun a ha => by
  simp only [takeOK, Bool.and_eq_true, beq_iff_eq] at hc
  obtain ⟨⟨⟨h1, h2⟩, h3⟩, h4⟩ := hc
  subst h4
  refine wpAnyH_take ho h1 h2 h3 (fun _ _ _ h => h) (Or.inl ⟨hg a N ha, fun w' hw => hy w' hw _ ha.evl⟩) hS ?_
  rw [hd]
  exact k _ (ha.put v hN)
def oneOK (ops : Array Oper) (l l' : Array Bool) (i : Nat) : Bool := (Region.ready .any ops l == [i]) && (l.setIfInBounds i true == l')
theorem drw_one {R : Value → World → Prop} (ho : ops[i]? = some o) (hg : Guard ops ρ o true) (hd : o.dst = some d) (hN : Nat.blt d N = true) (hc : oneOK ops l l' i = true) (hx : Does P ρ w o R)
    (k : ∀ v w', R v w' → S w' ∧ Drw P ops N Q S fuel l' ((d, v) :: ρ) w') : Drw P ops N Q S (fuel + 1) l ρ w := fun a ha => by
  simp only [oneOK, Bool.and_eq_true, beq_iff_eq] at hc
  obtain ⟨h1, h2⟩ := hc
  subst h2
  refine wpAnyH_all h1 (by simp) fun j hj => ?_
  simp at hj
  subst hj
  unfold wpOp
  simp only [ho, hg a N ha, if_true]
  exact Or.inl (hx.wp ha fun v w' hR => by rw [hd]; exact ⟨(k v w' hR).1, (k v w' hR).2 _ (ha.put v hN)⟩)
theorem drw_done (hc : (Region.ready .any ops l == []) = true) (h : At N ρ w Q .normal) : Drw P ops N Q S fuel l ρ w := fun a ha => wpAnyH_done (Q := Qn Q) (by simpa using hc) (show Qn Q .normal a w from h a ha) _
end drw
def chk {α : Type} (b : Bool) (t : Option α) : Option α := bif b then t else none
theorem chk_some {α : Type} {b : Bool} {t : Option α} {r : α} (h : chk b t = some r) : b = true ∧ t = some r := by
  cases b
  · cases h
  · exact ⟨rfl, h⟩
theorem bind_some {α β : Type} {o : Option α} {g : α → Option β} {r : β} (h : o.bind g = some r) : ∃ t, o = some t ∧ g t = some r := by
  cases o
  · cases h
  · exact ⟨_, rfl, h⟩
theorem cond_t {α : Type} {b : Bool} {x y r : α} (hb : b = true) (h : (bif b then x else y) = r) : x = r := by subst hb; exact h
theorem cond_f {α : Type} {b : Bool} {x y r : α} (hb : b = false) (h : (bif b then x else y) = r) : y = r := by subst hb; exact h
def thn {α β γ : Type} (o : α ⊕ β) (r : α → Option γ) (g : β → Option γ) : Option γ := match o with
  | .inl x => r x
  | .inr y => g y
def idxOk (i : Int) (n : Nat) : Bool := decide (0 ≤ i) && decide (i < n)
theorem idx_lo {i : Int} {n : Nat} (h : idxOk i n = true) : 0 ≤ i := by unfold idxOk at h; rw [Bool.and_eq_true, decide_eq_true_eq, decide_eq_true_eq] at h; exact h.1
theorem idx_hi {i : Int} {n : Nat} (h : idxOk i n = true) : i < n := by unfold idxOk at h; rw [Bool.and_eq_true, decide_eq_true_eq, decide_eq_true_eq] at h; exact h.2
theorem idx_nat {i : Int} {n : Nat} (h : idxOk i n = true) : i.toNat < n := by have := idx_lo h; have := idx_hi h; omega
def gt {α : Type} [Inhabited α] (xs : List α) (i : Int) : α := xs.getD i.toNat default
theorem gt_eq {α : Type} [Inhabited α] {xs : List α} {i : Int} (h : i.toNat < xs.length) : gt xs i = xs[i.toNat] := by unfold gt; rw [List.getD_eq_getElem?_getD, List.getElem?_eq_getElem h]; rfl
theorem rd_plain {α : Type} [Inhabited α] {sz : Nat} {enc : α → List Value} {hl : ∀ x, (enc x).length = sz} {h1 : ∀ x, ∀ u ∈ enc x, u.oneCell' = true} {w : World} {v : Value} {xs : List α} {i : Int} (h : RdS (Kd.plain sz enc hl h1) w v xs) (hi : idxOk i xs.length = true) :
    CellsAt w (sb v) (so v + i.toNat * sz) (enc (gt xs i)) := by
  obtain ⟨cs, h2, h3⟩ := h.get (idx_nat hi)
  rw [gt_eq (idx_nat hi)]
  have e : cs = enc (xs[i.toNat]'(idx_nat hi)) := h2
  subst e; exact h3
section cutsx
variable {α : Type} {o : Oper} {T e : Nat} {x y z : Operand} {v : Value} {xs : List α} {i j : Int} {k k' : IntKind} {w1 : World}
end cutsx
def CallOK (P : Program) (g : FuncId) : Prop := ∃ fn, P.funcs[g]? = some fn ∧ (fn.name == "runtime.NumGoroutine") = false ∧ fn.body.isSome = true
section callsx
variable {o : Oper}
theorem does_callk {g : FuncId} {as : Array Operand} {ts : Array TypeId} {vs : List Value} {R : Value → World → Prop} (h : o.op = .call { callee := .value (.func g), args := as, argTypes := ts }) (hk : CallOK P g) (hv : evs ρ as.toList = some vs)
    (hc : Calls P g vs.toArray w fun e w' => ∃ v, e = .returned v ∧ R v w') : Does P ρ w o R := by
  obtain ⟨fn, h1, h2, h3⟩ := hk
  exact does_call h h1 h2 h3 hv hc
theorem thn_inl {α β γ : Type} {x : α} {r : α → Option γ} {g : β → Option γ} {s : γ} (h : thn (.inl x) r g = some s) : r x = some s := h
theorem thn_inr {α β γ : Type} {x : β} {r : α → Option γ} {g : β → Option γ} {s : γ} (h : thn (.inr x) r g = some s) : g x = some s := h
end callsx

section printer
variable {ops : Array Oper} {is : List Nat} {o : Oper} {i d : Nat}
theorem Mem.suf {w0 : World} {X : List Nat} {M M' : List Chunk} (h : Mem w0 X w (M ++ M')) : Mem w0 X w M' := by
  induction M with
  | nil => exact h
  | cons C M ih => exact ih h.drop
variable {fn : Func} {R : Ending → World → Prop}
end printer

section eqs
variable {d : Nat} {xs ys : Array Value} {f : Field} {fs : List Field} {a b u : Value} {r s : Bool}
end eqs
section curs
variable {A B C D E F γ : Type}
end curs

def planOK (ops : Array Oper) : Array Bool → List (Nat × Bool) → Bool
  | l, [] => Region.ready .any ops l == []
  | l, (i, true) :: r => takeOK ops l (l.setIfInBounds i true) i && planOK ops (l.setIfInBounds i true) r
  | l, (i, false) :: r => oneOK ops l (l.setIfInBounds i true) i && planOK ops (l.setIfInBounds i true) r
def DrwP (P : Program) (ops : Array Oper) (N : Nat) (Q : Post) (S : World → Prop) (plan : List (Nat × Bool)) (ρ : Env) (w : World) : Prop := ∀ l, planOK ops l plan = true → Drw P ops N Q S plan.length l ρ w
section drwp
variable {ops : Array Oper} {S : World → Prop} {plan : List (Nat × Bool)} {o : Oper} {i d : Nat}
theorem run_drawp {id n : Nat} (S : World → Prop) (plan : List (Nat × Bool)) (hm : P.follows .mixedOrders = true) (hn : ops.size = n) (hp : plan.length = n) (hok : planOK ops (Array.replicate n false) plan = true) (h : DrwP P ops N Q S plan ρ w.drew) : Run P N ρ w (.region id ops true) Q :=
  run_draw S hm hn rfl (by subst hp; exact h _ hok)
theorem drwp_take {v : Value} (ho : ops[i]? = some o) (hg : Guard ops ρ o true) (hd : o.dst = some d) (hN : Nat.blt d N = true) (hy : ∀ w', S w' → Ex P ρ w' o v w') (hS : S w)
    (k : DrwP P ops N Q S plan ((d, v) :: ρ) w) : DrwP P ops N Q S ((i, true) :: plan) ρ w := fun l h => by
  simp only [planOK, Bool.and_eq_true] at h
  exact drw_take ho hg hd hN h.1 hy hS (k _ h.2)
theorem drwp_one {R : Value → World → Prop} (ho : ops[i]? = some o) (hg : Guard ops ρ o true) (hd : o.dst = some d) (hN : Nat.blt d N = true) (hx : Does P ρ w o R)
    (k : ∀ v w', R v w' → S w' ∧ DrwP P ops N Q S plan ((d, v) :: ρ) w') : DrwP P ops N Q S ((i, false) :: plan) ρ w := fun l h => by
  simp only [planOK, Bool.and_eq_true] at h
  exact drw_one ho hg hd hN h.1 hx fun v w' hR => ⟨(k v w' hR).1, (k v w' hR).2 _ h.2⟩
theorem drwp_done (h : At N ρ w Q .normal) : DrwP P ops N Q S [] ρ w := fun l hl => drw_done hl h
end drwp

def mask : List Nat → Nat
  | [] => 0
  | i :: r => Nat.lor (Nat.shiftLeft 1 i) (mask r)
theorem mask_bit (l : List Nat) (j : Nat) : (mask l).testBit j = l.contains j := by
  induction l with
  | nil => simp [mask]
  | cons i l ih =>
    show (Nat.lor (Nat.shiftLeft 1 i) (mask l)).testBit j = _
    have e : Nat.lor (Nat.shiftLeft 1 i) (mask l) = (1 <<< i) ||| mask l := rfl
    rw [e, Nat.testBit_or, ih, List.contains_cons]
    congr 1
    rw [Nat.one_shiftLeft, Nat.testBit_two_pow]
    by_cases h : i = j
    · subst h; simp
    · have h' : ¬ j = i := fun e => h e.symm
      simp [h, h']
def edgesOf (o : Oper) : List Nat := (o.after.toList.filter fun e => Region.binds .any e).map (·.on)
structure ORow where
  A : Nat
  K : Nat
  D : Nat
def rowOf (ops : Array Oper) (o : Oper) : ORow := ⟨mask (edgesOf o), mask (o.looksAt ops), match o.dst with
  | some d => Nat.shiftLeft 1 d
  | none => 0⟩
def has (m i : Nat) : Bool := !Nat.beq (Nat.land (Nat.shiftRight m i) 1) 0
def sub (a m : Nat) : Bool := Nat.beq (Nat.land a m) a
def off0 (a b : Nat) : Bool := Nat.beq (Nat.land a b) 0
theorem has_eq (m i : Nat) : has m i = m.testBit i := by
  unfold has Nat.testBit
  have e : Nat.land (Nat.shiftRight m i) 1 = 1 &&& (m >>> i) := by rw [Nat.and_comm]; rfl
  rw [e]
  cases h : Nat.beq (1 &&& m >>> i) 0
  · have := Nat.ne_of_beq_eq_false h
    exact (bne_iff_ne.2 this).symm
  · have := Nat.eq_of_beq_eq_true h
    rw [this]; rfl
theorem sub_eq {a m : Nat} (h : sub a m = true) : ∀ j, a.testBit j = true → m.testBit j = true := by
  intro j hj
  have e : a &&& m = a := Nat.eq_of_beq_eq_true h
  rw [← e, Nat.testBit_and] at hj
  simp at hj
  exact hj.2
theorem sub_ne {a m : Nat} (h : sub a m = false) : ∃ j, a.testBit j = true ∧ m.testBit j = false := by
  have e : ¬ (a &&& m = a) := Nat.ne_of_beq_eq_false h
  apply Classical.byContradiction
  intro hn
  apply e
  apply Nat.eq_of_testBit_eq
  intro j
  rw [Nat.testBit_and]
  cases ha : a.testBit j
  · rfl
  · cases hm : m.testBit j
    · exact absurd ⟨j, ha, hm⟩ hn
    · rfl
theorem off0_eq {a b : Nat} (h : off0 a b = true) : ∀ j, a.testBit j = true → b.testBit j = false := by
  intro j hj
  have e : a &&& b = 0 := Nat.eq_of_beq_eq_true h
  have := congrArg (fun m => m.testBit j) e
  simp [Nat.testBit_and, hj] at this
  exact this
def others (p : Nat → ORow → Bool) (i L : Nat) : Nat → List ORow → Bool
  | _, [] => true
  | j, r :: rs => (Nat.beq j i || has L j || p j r) && others p i L (j + 1) rs
theorem others_spec {p : Nat → ORow → Bool} {i L : Nat} : ∀ {rs : List ORow} {j : Nat}, others p i L j rs = true → ∀ q r, rs[q]? = some r → j + q = i ∨ L.testBit (j + q) = true ∨ p (j + q) r = true
  | [], _, _, q, r, hq => by simp at hq
  | r0 :: rs, j, h, q, r, hq => by
    unfold others at h
    rw [Bool.and_eq_true] at h
    cases q with
    | zero =>
      simp at hq
      subst hq
      have h1 := h.1
      rw [Bool.or_eq_true, Bool.or_eq_true, has_eq] at h1
      rcases h1 with (h1 | h1) | h1
      · exact .inl (Nat.eq_of_beq_eq_true h1)
      · exact .inr (.inl h1)
      · exact .inr (.inr h1)
    | succ q =>
      have := others_spec h.2 q r (by simpa using hq)
      rw [show j + (q + 1) = j + 1 + q by omega]
      exact this
def apartR (a b : ORow) : Bool := off0 a.D b.K && (off0 a.D b.D && off0 b.D a.K)
def getR : List ORow → Nat → Option ORow
  | [], _ => none
  | r :: _, 0 => some r
  | _ :: rs, n + 1 => getR rs n
theorem getR_eq : ∀ (rs : List ORow) (n : Nat), getR rs n = rs[n]?
  | [], _ => rfl
  | _ :: _, 0 => rfl
  | _ :: rs, n + 1 => by simp [getR, getR_eq rs n]
def fastOK (rs : List ORow) : Nat → List (Nat × Bool) → Bool
  | L, [] => others (fun _ r => !sub r.A L) rs.length L 0 rs
  | L, (i, t) :: r => match getR rs i with
    | none => false
    | some a => !has L i && sub a.A L && (match t with
      | true => others (fun j b => has b.A i || apartR a b) i L 0 rs
      | false => others (fun j b => !sub b.A L) i L 0 rs) && fastOK rs (Nat.lor L (Nat.shiftLeft 1 i)) r
def rowsOf (ops : Array Oper) : List ORow := ops.toList.map (rowOf ops)
def fastAll (ops : Array Oper) (plan : List (Nat × Bool)) : Bool := Region.noSelect ops && fastOK (rowsOf ops) 0 plan
section sound
variable {ops : Array Oper} {l : Array Bool} {L : Nat} {i : Nat}
theorem edge_bit {o : Oper} {k : Nat} : (rowOf ops o).A.testBit k = true ↔ ∃ e ∈ o.after, Region.binds .any e = true ∧ e.on = k := by
  show (mask (edgesOf o)).testBit k = true ↔ _
  rw [mask_bit, List.contains_iff_mem]
  unfold edgesOf
  simp only [List.mem_map, List.mem_filter, Array.mem_toList_iff]
  exact ⟨fun ⟨e, ⟨h1, h2⟩, h3⟩ => ⟨e, h1, h2, h3⟩, fun ⟨e, h1, h2, h3⟩ => ⟨e, ⟨h1, h2⟩, h3⟩⟩
theorem row_get {o : Oper} (h : ops[i]? = some o) : (rowsOf ops)[i]? = some (rowOf ops o) := by
  unfold rowsOf
  rw [List.getElem?_map, Array.getElem?_toList, h]; rfl
theorem row_some {r : ORow} (h : (rowsOf ops)[i]? = some r) : ∃ o, ops[i]? = some o ∧ r = rowOf ops o := by
  unfold rowsOf at h
  rw [List.getElem?_map, Array.getElem?_toList] at h
  cases ho : ops[i]? with
  | none => rw [ho] at h; cases h
  | some o => rw [ho] at h; exact ⟨o, rfl, (Option.some.inj h).symm⟩
def Rel (ops : Array Oper) (l : Array Bool) (L : Nat) : Prop := l.size = ops.size ∧ ∀ j, l.getD j false = L.testBit j
theorem Rel.getT (h : Rel ops l L) {j : Nat} (hj : j < ops.size) : l.getD j true = L.testBit j := by
  rw [← h.2 j]
  have : j < l.size := by rw [h.1]; exact hj
  simp [Array.getD_eq_getD_getElem?, this]
theorem Rel.set (h : Rel ops l L) (hi : i < ops.size) : Rel ops (l.setIfInBounds i true) (Nat.lor L (Nat.shiftLeft 1 i)) := by
  refine ⟨by simp [h.1], fun j => ?_⟩
  have e : (Nat.lor L (Nat.shiftLeft 1 i)).testBit j = (L.testBit j || decide (i = j)) := by
    have e0 : Nat.lor L (Nat.shiftLeft 1 i) = L ||| (1 <<< i) := rfl
    rw [e0, Nat.testBit_or, Nat.one_shiftLeft, Nat.testBit_two_pow]
  rw [e, ← h.2 j]
  have hs : i < l.size := by rw [h.1]; exact hi
  by_cases hij : i = j
  · subst hij; simp [Array.getD_eq_getD_getElem?, hs]
  · simp [Array.getD_eq_getD_getElem?, hij]
theorem ready_iff (h : Rel ops l L) {j : Nat} {o : Oper} (ho : ops[j]? = some o) : j ∈ Region.ready .any ops l ↔ L.testBit j = false ∧ ∀ k, (rowOf ops o).A.testBit k = true → L.testBit k = true := by
  have hj : j < ops.size := (Array.getElem?_eq_some_iff.1 ho).1
  rw [mem_ready, h.getT hj]
  refine and_congr Iff.rfl ⟨fun ⟨o', h1, h2⟩ k hk => ?_, fun h1 => ⟨o, ho, fun e he hb => ?_⟩⟩
  · rw [ho] at h1; cases h1
    obtain ⟨e, h3, h4, h5⟩ := edge_bit.1 hk
    subst h5
    rw [← h.2]; exact h2 e h3 h4
  · rw [h.2]; exact h1 _ (edge_bit.2 ⟨e, he, hb, rfl⟩)
theorem d_bit {o : Oper} {d : Nat} (h : o.dst = some d) (k : Nat) : (rowOf ops o).D.testBit k = decide (d = k) := by
  unfold rowOf
  rw [h]
  show (1 <<< d).testBit k = _
  rw [Nat.one_shiftLeft, Nat.testBit_two_pow]
theorem apart_of {x y : Oper} (h : apartR (rowOf ops x) (rowOf ops y) = true) : x.apart ops y = true := by
  unfold apartR at h
  rw [Bool.and_eq_true, Bool.and_eq_true] at h
  obtain ⟨h1, h2, h3⟩ := h
  unfold Oper.apart
  rw [Bool.and_eq_true]
  constructor
  · cases hx : x.dst with
    | none => rfl
    | some d =>
      have hb : (rowOf ops x).D.testBit d = true := by rw [d_bit hx]; simp
      have a1 := off0_eq h1 d hb
      have a2 := off0_eq h2 d hb
      have a1' : (mask (y.looksAt ops)).testBit d = false := a1
      rw [mask_bit] at a1'
      simp only [a1', Bool.not_false, Bool.true_and]
      cases hy : y.dst with
      | none => rfl
      | some d' =>
        rw [d_bit hy] at a2
        have : d' ≠ d := by simpa using a2
        simp [this]
  · cases hy : y.dst with
    | none => rfl
    | some d =>
      have hb : (rowOf ops y).D.testBit d = true := by rw [d_bit hy]; simp
      have a1' : (mask (x.looksAt ops)).testBit d = false := off0_eq h3 d hb
      rw [mask_bit] at a1'
      simp only [a1', Bool.not_false]
theorem fast_sound (hs : Region.noSelect ops = true) : ∀ {plan : List (Nat × Bool)} {l : Array Bool} {L : Nat}, Rel ops l L → fastOK (rowsOf ops) L plan = true → planOK ops l plan = true
  | [], l, L, hr, h => by
    unfold planOK
    unfold fastOK at h
    rw [beq_iff_eq, List.eq_nil_iff_forall_not_mem]
    intro j hj
    obtain ⟨h1, o, ho, _⟩ := mem_ready.1 hj
    have hlt : j < ops.size := (Array.getElem?_eq_some_iff.1 ho).1
    obtain ⟨h3, h4⟩ := (ready_iff hr ho).1 hj
    rcases others_spec h j _ (row_get ho) with h5 | h5 | h5
    · rw [Nat.zero_add] at h5; simp [rowsOf] at h5; omega
    · rw [Nat.zero_add, h3] at h5; cases h5
    · have h6 : sub (rowOf ops o).A L = false := by simpa using h5
      obtain ⟨k, h7, h8⟩ := sub_ne h6
      rw [h4 k h7] at h8; cases h8
  | (i, t) :: plan, l, L, hr, h => by
    unfold fastOK at h
    rw [getR_eq] at h
    cases hg : (rowsOf ops)[i]? with
    | none => rw [hg] at h; cases h
    | some a =>
      rw [hg] at h
      obtain ⟨o, ho, rfl⟩ := row_some hg
      have hi : i < ops.size := (Array.getElem?_eq_some_iff.1 ho).1
      simp only [Bool.and_eq_true, has_eq, Bool.not_eq_true'] at h
      obtain ⟨⟨⟨h1, h2⟩, h3⟩, h4⟩ := h
      have ih := fast_sound hs (hr.set hi) h4
      have hready : i ∈ Region.ready .any ops l := (ready_iff hr ho).2 ⟨h1, sub_eq h2⟩
      cases t with
      | true =>
        simp only [planOK, takeOK, Bool.and_eq_true]
        refine ⟨⟨⟨⟨hs, ?_⟩, by simpa using hready⟩, by simp⟩, ih⟩
        simp only [Region.free, ho, List.all_eq_true, List.mem_range]
        intro j hj
        cases hoj : ops[j]? with
        | none => simp
        | some oj =>
          simp only [Bool.or_eq_true, beq_iff_eq]
          rcases others_spec h3 j _ (row_get hoj) with h5 | h5 | h5
          · left; left; omega
          · left; right; rw [hr.getT hj]; simpa using h5
          · right
            simp only [Bool.or_eq_true] at h5
            rcases h5 with h5 | h5
            · left
              obtain ⟨e, h6, h7, h8⟩ := edge_bit.1 h5
              rw [Array.any_eq_true']
              exact ⟨e, h6, by simp [h7, h8]⟩
            · right; exact apart_of h5
      | false =>
        simp only [planOK, oneOK, Bool.and_eq_true]
        refine ⟨⟨?_, by simp⟩, ih⟩
        rw [beq_iff_eq]
        have hnd : (Region.ready .any ops l).Nodup := by unfold Region.ready; exact List.Nodup.sublist List.filter_sublist List.nodup_range
        have hall : ∀ j ∈ Region.ready .any ops l, j = i := by
          intro j hj
          obtain ⟨_, oj, hoj, _⟩ := mem_ready.1 hj
          obtain ⟨h6, h7⟩ := (ready_iff hr hoj).1 hj
          rcases others_spec h3 j _ (row_get hoj) with h5 | h5 | h5
          · omega
          · rw [Nat.zero_add, h6] at h5; cases h5
          · have h8 : sub (rowOf ops oj).A L = false := by simpa using h5
            obtain ⟨k, h9, h10⟩ := sub_ne h8
            rw [h7 k h9] at h10; cases h10
        generalize Region.ready .any ops l = rs at *
        match rs, hready, hnd, hall with
        | [x], _, _, ha => rw [ha x (by simp)]
        | x :: y :: rs, _, hn, ha =>
          have e1 := ha x (by simp)
          have e2 := ha y (by simp)
          subst e1; subst e2
          simp at hn
theorem plan_ok {n : Nat} {plan : List (Nat × Bool)} (hn : ops.size = n) (h : fastAll ops plan = true) : planOK ops (Array.replicate n false) plan = true := by
  unfold fastAll at h
  rw [Bool.and_eq_true] at h
  refine fast_sound h.1 ⟨by simp [hn], fun j => ?_⟩ h.2
  simp [Array.getD_eq_getD_getElem?, Array.getElem?_replicate]
  split <;> rfl
theorem run_drawf {id n : Nat} (S : World → Prop) (plan : List (Nat × Bool)) (hm : P.follows .mixedOrders = true) (hn : ops.size = n) (hp : plan.length = n) (hok : fastAll ops plan = true) (h : DrwP P ops N Q S plan ρ w.drew) : Run P N ρ w (.region id ops true) Q :=
  run_drawp S plan hm hn hp (plan_ok hn hok) h
end sound
end Go.Proofs.YtpfaihnmonfkhaaGreatDoorSq.Zk
