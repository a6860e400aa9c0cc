/- Texts in the calculus: strings cut, errors that are nil or not, the variables of the library's own that the shelf's contracts read. No condition. -/
import Derived.Test.YtmaolhocmkkmjaaGreatDoorZkS
import Derived.Lib.SmallJoins
import Derived.Stop.LaidErr
import Derived.SizedLaws
import Derived.Handed
import Derived.HandedShaped
namespace Go.Proofs.YtmaolhocmkkmjaaGreatDoor.Zk
open Go Go.RowKit Go.Sort
def ErrV (v : Value) (b : Bool) : Prop := (v = .nilIface ∧ b = true) ∨ (b = false ∧ ∃ te pe, v = .iface te pe)
theorem ex_errneq {P : Program} {ρ : Env} {w : World} {o : Oper} {x : Operand} {c : Value} {t t' : TypeId} {ms : Array (String × TypeId)} {v : Value} {b : Bool} (h : o.op = .binOp .neq t x (.const c) t') (hx : ev ρ x = some v) (hy : ev ρ (.const c) = some .nilIface) (hu : P.underlying t = some (.interface ms)) (hE : ErrV v b) : Ex P ρ w o (.bool (!b)) w := fun f hf => by
  rcases hE with ⟨rfl, rfl⟩ | ⟨rfl, te, pe, rfl⟩
  · have h0 : ∀ d : Nat, (Op.equalIn (d + 1) t .nilIface .nilIface).run P w = .ok true w := fun d => by simp [Op.equalIn, run_underlying hu]
    have h1 : (Op.equal t .nilIface .nilIface).run P w = .ok true w := h0 9999
    have e2 : (binOp .neq t .nilIface .nilIface).run P w = .ok (.bool false) w := by
      simp only [binOp]
      simp [h1]
    have e3 : (eqGuard .neq t x (.const c) .nilIface .nilIface).run P w = .ok () w := by rw [eqGuard_nil_constR]; rfl
    simp [execOp, h, hf.ev _ _ hx, hf.ev _ _ hy, e2, e3]
  · have h0 : ∀ d : Nat, (Op.equalIn (d + 1) t (.iface te pe) .nilIface).run P w = .ok false w := fun d => by simp [Op.equalIn, run_underlying hu]
    have h1 : (Op.equal t (.iface te pe) .nilIface).run P w = .ok false w := h0 9999
    have e2 : (binOp .neq t (.iface te pe) .nilIface).run P w = .ok (.bool true) w := by
      simp only [binOp]
      simp [h1]
    have e3 : (eqGuard .neq t x (.const c) (.iface te pe) .nilIface).run P w = .ok () w := rfl
    simp [execOp, h, hf.ev _ _ hx, hf.ev _ _ hy, e2, e3]
def piR (l : List UInt8) : Lib.NumEnd Int → Int × Bool
  | .ok v => (v, true)
  | .range => (Lib.intSat 64 l, false)
  | _ => (0, false)
section
variable {P : Program} {ρ : Env} {w : World} {o : Oper} {T : TypeId} {x y z : Operand} {s : ByteArray} {i j : Int} {k k' : IntKind}
theorem ex_scutLH (ho : o.op = .slice T x (some y) (some z) none) (hx : ev ρ x = some (.string s)) (hy : ev ρ y = some (.int k i)) (hz : ev ρ z = some (.int k' j)) (hu : P.underlying T = some .string) (hi : cutOk i j.toNat = true) (hj : cutOk j s.size = true) : Ex P ρ w o (.string (s.extract i.toNat j.toNat)) w := fun f hf => by
  have e : (Instr.sliceAt T (.string s) (some (.int k i)) (some (.int k' j)) none).run P w = .ok (.string (s.extract i.toNat j.toNat)) w := by
    rw [run_sliceAt_string _ _ _ _ _ _ hu]
    exact run_slice_string w T s k k' i j hu (cut_lo hi) (cut_lt2 hi hj) (cut_le2 hj)
  simp [execOp, ho, hf.ev _ _ hx, hf.ev _ _ hy, hf.ev _ _ hz, e]
end
theorem Elems.strs {d : Kd ByteArray} {w : World} (hO : ∀ x : ByteArray, d.O w x [.string x] []) : ∀ l : List ByteArray, Elems d w (l.map Value.string) l []
  | [] => .nil
  | x :: l => .cons (c := [.string x]) (f := []) (hO x) (Elems.strs hO l)
theorem mem_row {α : Type} {w : World} {d : Kd α} {T c : Nat} {l : List α} {vs : Array Value} (hs : d.sz = 1) (hc : l.length = c) (hm : c ≤ maxLen) (hE : ∀ w, Elems d w vs.toList l []) : Mem w [] (w.alloc (.cells vs T)) [own d T (.slice (some ⟨w.heap.size, 0, none⟩) c c) l] := by
  refine (Mem.start w).alloc _ ?_
  have hl := (hE w).length
  rw [hs, Nat.mul_one] at hl
  subst hc
  refine ⟨vs.toList, [w.heap.size], [], .inr ⟨w.heap.size, l.length, vs, rfl, by simpa using heap_alloc_new w _, Nat.le_refl _, hm, ?_, ?_, rfl⟩, rfl, hE _⟩
  · rw [hs, Nat.mul_one]; simpa using hl
  · rw [hs, Nat.mul_one, ← hl, List.take_length]
def strNums (s : ByteArray) : List Int := s.data.toList.map fun b => (b.toNat : Int)
def brow (e : TypeId) (v : Value) (xs : List Int) : Chunk := ⟨fun w f => ∃ g c cur fz, v = .slice (some ⟨g, 0, none⟩) xs.length c ∧ w.heap[g]? = some (.cells cur e fz) ∧ cur.size ≤ fz.1 ∧ xs.length ≤ cur.size ∧ xs.length ≤ c ∧ cur.toList.take xs.length = xs.map (fun x => Value.int .u8 x) ∧ f = [g],
  fun ⟨g, c, cur, fz, h1, h2, h3, h4, h5, h6, h7⟩ hk => ⟨g, c, cur, fz, h1, by subst h7; rw [hk g (by simp)]; exact h2, h3, h4, h5, h6, h7⟩⟩
section
variable {P : Program} {ρ : Env} {w w0 : World} {X : List Nat} {M : List Chunk} {o : Oper}
theorem Mem.brow_rd {hl : ∀ x : Int, [Value.int .u8 x].length = 1} {h1 : ∀ x : Int, ∀ u ∈ [Value.int .u8 x], u.oneCell' = true} {e : TypeId} {v : Value} {xs : List Int} (h : Mem w0 X w M) (j : Nat) (hj : M[j]? = some (brow e v xs)) : RdS (Kd.plain 1 (fun x => [Value.int .u8 x]) hl h1) w v xs := by
  obtain ⟨f, ⟨g, c, cur, fz, rfl, h2, h3, h4, h5, h6, h7⟩, _⟩ := h.get j hj
  refine ⟨_, c, rfl, h5, ?_⟩
  by_cases he : xs = []
  · exact .inl he
  · refine .inr ⟨g, 0, rfl, fun i hi => ⟨_, rfl, fun q u hu => ?_⟩⟩
    have hq : q = 0 := by
      have := (List.getElem?_eq_some_iff.1 hu).1
      simp at this; exact this
    subst hq
    have hu' : Value.int .u8 xs[i] = u := by simpa using hu
    subst hu'
    show w.cell? ⟨g, 0 + i * 1 + 0, none⟩ = _
    rw [show 0 + i * 1 + 0 = i by omega, cell_of_row w g i cur e fz h2]
    have e1 : (cur.toList.take xs.length)[i]? = some (Value.int .u8 xs[i]) := by rw [h6, List.getElem?_map, List.getElem?_eq_getElem hi]; rfl
    rw [List.getElem?_take, if_pos hi] at e1
    simpa using e1
theorem does_sbytes {src dst e : TypeId} {x : Operand} {s : ByteArray} (h : o.op = .convert src dst x) (hx : ev ρ x = some (.string s)) (hs : P.underlying src = some .string) (hd : P.underlying dst = some (.slice e)) (he : P.underlying e = some (.int .u8))
    (hm : Mem w0 X w M) : Does P ρ w o fun v w' => Mem w0 X w' (brow e v (strNums s) :: M) := fun f hf => by
  have hr := run_bytes_of_string w src dst e s hs hd he
  have hle := grownCap_ge w s.size 0 e
  refine .inl ⟨.slice (some ⟨w.heap.size, 0, none⟩) s.size (grownCap w s.size 0 e), w.drew.alloc (.cells (bytesRow s (grownCap w s.size 0 e)) e ((bytesRow s (grownCap w s.size 0 e)).size, (bytesRow s (grownCap w s.size 0 e)).size + 1)), by simp [execOp, h, hf.ev _ _ hx, hr], (hm.grow (fr_drew w)).alloc _ ?_⟩
  have e0 : s.data.size = s.size := rfl
  have hlen : (strNums s).length = s.size := by unfold strNums; rw [List.length_map, Array.length_toList]; rfl
  have hcs : (bytesRow s (grownCap w s.size 0 e)).size = grownCap w s.size 0 e := by unfold bytesRow; rw [Array.size_append, Array.size_map, Array.size_replicate]; omega
  refine ⟨w.heap.size, grownCap w s.size 0 e, bytesRow s (grownCap w s.size 0 e), _, by rw [hlen], by simpa using heap_alloc_new w.drew _, Nat.le_refl _, by rw [hlen, hcs]; exact hle, by rw [hlen]; exact hle, ?_, rfl⟩
  rw [hlen]
  unfold bytesRow strNums
  have e1 : s.size = s.data.toList.length := by rw [Array.length_toList]; rfl
  simp only [Array.toList_append, Array.toList_map, Array.toList_replicate]
  rw [List.take_append_of_le_length (by rw [List.length_map]; omega), List.take_of_length_le (by rw [List.length_map]; omega), List.map_map]
  rfl
theorem does_setB {T' e i : Nat} {p x : Operand} {v : Value} {y : Int} {xs : List Int} {off : Nat} (h : o.op = .store T' p x) (hp : ev ρ p = some (.pointer (some ⟨sb v, off, none⟩))) (hoff : off = so v + i * 1) (hx : ev ρ x = some (.int .u8 y))
    (hs : tsz P T' = some 1) (hi : i < xs.length) (hm : Mem w0 X w (brow e v xs :: M)) : DoesS P ρ w o fun w' => Mem w0 X w' (brow e v (xs.set i y) :: M) := fun f hf => by
  subst hoff
  obtain ⟨F, ⟨g, c, cur, fz, rfl, h2, h3, h4, h5, h6, rfl⟩, hnd, hlt, hclose⟩ := hm.take
  have hic : i < cur.size := by omega
  have hcell : w.cell? ⟨g, i, none⟩ = some cur[i] := by simp [World.cell?, h2, hic]
  have hfro : w.frozen? ⟨g, i, none⟩ = false := by
    obtain ⟨lo, hi'⟩ := fz
    simp only [World.frozen?, h2, Bool.and_eq_false_iff, decide_eq_false_iff_not]
    left
    simp only at h3
    omega
  have hst : (store (⟨g, i, none⟩ : Addr) (.int .u8 y)).run P w = .ok () (w.setRow g (cur.setIfInBounds i (.int .u8 y))) := by
    rw [run_store P w _ _ _ rfl, hcell]
    simp [hfro, setCell_eq_setRow w g i cur e fz _ h2]
  have hst2 : (storeCells (⟨g, i, none⟩ : Addr) [.int .u8 y] 0).run P w = .ok () (w.setRow g (cur.setIfInBounds i (.int .u8 y))) := by
    have hadd : (⟨g, i, none⟩ : Addr).add 0 = ⟨g, i, none⟩ := by unfold Addr.add; split <;> simp_all
    simp [storeCells, hadd, hst]
  refine ⟨w.setRow g (cur.setIfInBounds i (.int .u8 y)), ?_, hclose _ (brow e _ (xs.set i y)) [g] ⟨g, c, _, fz, by rw [List.length_set], setRow_heap w g _ _ _ _ h2, by simpa using h3, by simpa using h4, by simpa using h5, ?_, rfl⟩ hnd (fun b hb => ?_) (setRow_fr w g _)⟩
  · have hp' : ev ρ p = some (.pointer (some ⟨g, i, none⟩)) := by rw [hp]; simp [sb, so]
    have hc1 : (Value.int IntKind.u8 y).cells = #[.int .u8 y] := rfl
    simp [execOp, h, hf.ev _ _ hp', hf.ev _ _ hx, Instr.storeAt, Instr.sureAddr, storeVar, run_sizeOf hs]
    rw [hc1, if_pos (show (#[Value.int IntKind.u8 y] : Array Value).size = 1 from rfl), show (#[Value.int .u8 y] : Array Value).toList = [.int .u8 y] from rfl, hst2]
    rfl
  · rw [List.length_set]
    have e1 : (cur.setIfInBounds i (.int .u8 y)).toList = cur.toList.set i (.int .u8 y) := by simp
    rw [e1, List.take_set, h6, List.map_set]
  · rw [setRow_size]; exact ⟨hlt b hb, .inl hb⟩
theorem does_cutB {T e : TypeId} {x y : Operand} {v : Value} {xs : List Int} {i : Int} {k : IntKind} (ho : o.op = .slice T x none (some y) none) (hx : ev ρ x = some v) (hy : ev ρ y = some (.int k i)) (hu : P.underlying T = some (.slice e)) (hs : tsz P e = some 1) (hi : cutOk i xs.length = true)
    (hm : Mem w0 X w (brow e v xs :: M)) : Does P ρ w o fun v' w' => Mem w0 X w' (brow e v' (xs.take i.toNat) :: M) := fun f hf => by
  have hle := cut_hi hi
  obtain ⟨_, ⟨g, c, cur, fz, hv, _, _, h4, h5, _, _⟩, _⟩ := hm.take
  refine .inl ⟨cutv v 0 i.toNat 1, w, ex_cutvH ho hx hy hu hs (cut_lo hi) ⟨_, _, _, hv, h5, by omega⟩ f hf, hm.conv fun f hf => ?_⟩
  obtain ⟨g, c, cur, fz, rfl, h2, h3, h4, h5, h6, h7⟩ := hf
  refine ⟨g, c, cur, fz, ?_, h2, h3, ?_, ?_, ?_, h7⟩
  · have e1 : (xs.take i.toNat).length = i.toNat := by rw [List.length_take]; omega
    rw [cutv_eq, e1]
    cases Nat.decEq c 0 with
    | isTrue h => rw [if_pos h, Nat.sub_zero, Nat.sub_zero]
    | isFalse h => rw [if_neg h, Nat.sub_zero, Nat.sub_zero, Option.map_some, add0]
  · rw [List.length_take]; omega
  · rw [List.length_take]; omega
  · have e1 : (xs.take i.toNat).length = i.toNat := by rw [List.length_take]; omega
    have e2 := congrArg (List.take i.toNat) h6
    rw [List.take_take, Nat.min_eq_left hle] at e2
    rw [e1, e2, List.map_take]
end
structure TabP (w : World) : Prop where
  tab : Tab w
  maxLen : ∃ m, w.cell? ⟨0, 0, none⟩ = some (.int .i64 m)
  syn : ∃ te pe, w.cell? ⟨1, 0, none⟩ = some (.iface te pe)
  rng : ∃ te pe, w.cell? ⟨2, 0, none⟩ = some (.iface te pe)
theorem Mem.tabP {w0 w : World} {M : List Chunk} (h : Mem w0 [] w M) (t : TabP w0) : TabP w := by
  have key : ∀ a v, w0.cell? a = some v → w.cell? a = some v := fun a v e => (h.below.cell (World.block_lt_of_cell? w0 _ e)).trans e
  obtain ⟨m, hm⟩ := t.maxLen; obtain ⟨a, b, hs⟩ := t.syn; obtain ⟨c, d, hr⟩ := t.rng
  exact ⟨h.tab t.tab, ⟨m, key _ _ hm⟩, ⟨a, b, key _ _ hs⟩, ⟨c, d, key _ _ hr⟩⟩
theorem Mem.tabPo {wo w0 w : World} {X : List Nat} {M : List Chunk} (h : Mem w0 X w M) (ho : Olds wo w0 X) (t : TabP wo) : TabP w := by
  have key := ho.cell w h.fr
  obtain ⟨m, hm⟩ := t.maxLen; obtain ⟨a, b, hs⟩ := t.syn; obtain ⟨c, d, hr⟩ := t.rng
  exact ⟨h.tabo ho t.tab, ⟨m, key _ _ hm⟩, ⟨a, b, key _ _ hs⟩, ⟨c, d, key _ _ hr⟩⟩
theorem iface_of_laid {P : Program} {W : World} {n nm : String} {d : DataW Unit} {r : List (String × DataW Unit)} {g : Nat} {ti : TypeId} {ms : Array (String × TypeId)} (h : laidMet P ((n, .iface nm d) :: r) W)
    (hg : P.globalNamed n = some g) (ht : (P.globals[g]?).map (·.type) = some ti) (hi : P.underlying ti = some (.interface ms)) : ∃ te pe, W.cell? ⟨g, 0, none⟩ = some (.iface te pe) := by
  obtain ⟨ps, ⟨g0, t0, cs0, f0, p0, q0, hg0, ht0, hv0, hd0, _, e0⟩, _, hrows⟩ := h
  obtain rfl := Option.some.inj (hg.symm.trans hg0)
  obtain rfl := Option.some.inj (ht.symm.trans ht0)
  obtain ⟨l0⟩ := cs0
  obtain ⟨f1, u, v, rfl, hn, h1⟩ := iface_of_trod hi hd0
  exact ⟨u, v, by simpa using World.var?_cell hg0 hv0 0⟩
theorem returns_shaped {H : Type} {enc : TypeId × Value → H} {a : Assume} {C : Checked} {os : Os} {f : FuncId} {fn : Func} {s : ChangeSpec} {conds : List PathCond} {apart fresh handsOn again : Bool} {X : World → Array Value → Prop}
    (hX : ∀ (w w' : World) (args : Array Value), w.heap = w'.heap → X w args → X w' args)
    (own : ownKnob C.prog.godebug = none) (started : os.Started) (noInit : C.prog.inits.idxOf? f = none) (hfn : C.prog.funcs[f]? = some fn)
    (witness : ∃ (w : World) (tape : Tape) (i : Input), w.os = os ∧ (w.forCall tape i).Shaped C.prog ∧ i.vars = [] ∧ Input.okWide C.prog (w.forCall tape i) .any w.heap.size f i ∧
      ((s.pre enc C.prog fn conds apart (w.forCall tape i).memory i.args ∧ X (w.forCall tape i).memory i.args) ∧ sizedMet enc C.prog fn (OpenSpec.ofChange s) apart (w.forCall tape i).memory i.args) ∧ a.holds C.prog (lone (Frame.enter C.prog f i.args .normal) [] (w.forCall tape i)))
    (contract : ∀ (W : World) (base : Nat) (args : Array Value) (ds gs : List (DataW H)) (before : List MemPlace),
      (∀ (j : Nat) t v, fn.params[j]? = some t → args[j]? = some v → Value.okWide C.prog W .any base t v) →
      DataW.Whole enc C.prog fn.params.toList s.vars apart W args.toList ds gs before →
      conds.all (PathCond.test C.prog ⟨fn.params.toList, ds, s.plain.varTypes C.prog, gs⟩) = true →
      (DataW.weightsEach C.prog (fn.params.toList ++ s.plain.varTypes C.prog) (ds ++ gs)).all (· ≤ reachBytes) = true → X W args → W.ShapedOpen C.prog →
      a.holds C.prog (lone (Frame.enter C.prog f args .normal) [] W) →
      Calls C.prog f args W fun e W' => ∃ v, e = .returned v ∧ s.post enc C.prog fn apart fresh handsOn again W args v W') :
    ReturnsInHanded a C os f .any (fun w args => (s.pre enc C.prog fn conds apart w args ∧ X w args) ∧ sizedMet enc C.prog fn (OpenSpec.ofChange s) apart w args) (s.post enc C.prog fn apart fresh handsOn again) := by
  refine returnsInHanded_of_calls own started noInit witness ?_
  intro w tape i _ hsh _ hok hpre hholds
  obtain ⟨_, _, _, fn', hfn', _, _, _, _, hval⟩ := hok
  have e : fn' = fn := Option.some.inj (hfn'.symm.trans hfn)
  subst e
  obtain ⟨⟨⟨ds, gs, before, hw, hc⟩, hx⟩, hz⟩ := hpre
  have hw' := DataW.Whole.of_heap (w' := w.forCall tape i) (by rfl) hw
  refine (contract (w.forCall tape i) w.heap.size i.args ds gs before hval hw' hc (hz.weights hw) (hX _ _ _ (by rfl) hx) hsh hholds).mono fun e W' ⟨v, he, hp⟩ => ?_
  subst he
  exact ChangeSpec.post_blind hp
end Go.Proofs.YtmaolhocmkkmjaaGreatDoor.Zk
