/- Short forms of the calculus: several side conditions as one, lists of chunks told by numbers. No condition. -/
import Derived.Test.YtecgbhfgkkpmhacGreatZkX
namespace Go.Proofs.YtecgbhfgkkpmhacGreat.Zk
set_option linter.unusedVariables false
open Go Go.RowKit Go.IntWalk
section ops
variable {P : Program} {N : Nat} {ρ : Env} {w w' : World} {Q : Post} {ops : Array Oper} {o : Oper} {i d : Nat} {is : List Nat} {v : Value} {b c : Bool}
def st1 (ops : Array Oper) (i N : Nat) : Option (Oper × Nat) := match ops[i]? with
  | none => none
  | some o => match o.guard with
    | some _ => none
    | none => match o.dst with
      | none => none
      | some d => bif Nat.blt d N then some (o, d) else none
theorem st1_some (h : st1 ops i N = some (o, d)) : ops[i]? = some o ∧ o.guard = none ∧ o.dst = some d ∧ Nat.blt d N = true := by
  unfold st1 at h
  cases ho : ops[i]? with
  | none => rw [ho] at h; cases h
  | some o' =>
    rw [ho] at h
    simp only at h
    cases hg : o'.guard with
    | some _ => rw [hg] at h; cases h
    | none =>
      rw [hg] at h
      simp only at h
      cases hd : o'.dst with
      | none => rw [hd] at h; cases h
      | some d' =>
        rw [hd] at h
        simp only at h
        cases hb : Nat.blt d' N
        · rw [hb] at h; cases h
        · rw [hb] at h
          cases h
          exact ⟨rfl, hg, hd, hb⟩
theorem oy (h : st1 ops i N = some (o, d)) (hx : Ex P ρ w o v w') (k : Ops P ops N ((d, v) :: ρ) w' Q is) : Ops P ops N ρ w Q (i :: is) := let ⟨h1, h2, h3, h4⟩ := st1_some h; ox h1 h2 h3 h4 hx k
theorem oz {R : Value → World → Prop} (h : st1 ops i N = some (o, d)) (hx : Does P ρ w o R) (k : ∀ v w', R v w' → Ops P ops N ((d, v) :: ρ) w' Q is) : Ops P ops N ρ w Q (i :: is) := let ⟨h1, h2, h3, h4⟩ := st1_some h; od h1 h2 h3 h4 hx k
def stM (ops : Array Oper) (ρ : Env) (i N : Nat) : Option (Nat × Value) := match st1 ops i N with
  | none => none
  | some (o, d) => match o.op with
    | .move x => match ev ρ x with
      | some v => some (d, v)
      | none => none
    | .assign x => match ev ρ x with
      | some v => some (d, v)
      | none => none
    | _ => none
theorem oM (h : stM ops ρ i N = some (d, v)) (k : Ops P ops N ((d, v) :: ρ) w Q is) : Ops P ops N ρ w Q (i :: is) := by
  unfold stM at h
  cases h1 : st1 ops i N with
  | none => rw [h1] at h; cases h
  | some q =>
    obtain ⟨o, d'⟩ := q
    rw [h1] at h
    simp only at h
    split at h
    · rename_i x hx
      cases he : ev ρ x with
      | none => rw [he] at h; cases h
      | some v' => rw [he] at h; cases h; exact oy h1 (ex_move hx he) k
    · rename_i x hx
      cases he : ev ρ x with
      | none => rw [he] at h; cases h
      | some v' => rw [he] at h; cases h; exact oy h1 (ex_assign hx he) k
    · cases h
def stG (ops : Array Oper) (ρ : Env) (i N : Nat) : Option (Oper × Nat × Bool × Bool) := match ops[i]? with
  | none => none
  | some o => match o.guard with
    | none => none
    | some (g, c) => match o.dst with
      | none => none
      | some d => match (ops[g]?).bind (·.dst) with
        | none => none
        | some dg => match look ρ dg with
          | some (.bool b) => bif Nat.blt d N then some (o, d, b, c) else none
          | _ => none
theorem stG_some (h : stG ops ρ i N = some (o, d, b, c)) : ∃ g dg, ops[i]? = some o ∧ o.guard = some (g, c) ∧ o.dst = some d ∧ (ops[g]?).bind (·.dst) = some dg ∧ look ρ dg = some (.bool b) ∧ Nat.blt d N = true := by
  unfold stG at h
  cases ho : ops[i]? with
  | none => rw [ho] at h; cases h
  | some o' =>
    rw [ho] at h
    simp only at h
    cases hg : o'.guard with
    | none => rw [hg] at h; cases h
    | some gc =>
      obtain ⟨g, c'⟩ := gc
      rw [hg] at h
      simp only at h
      cases hd : o'.dst with
      | none => rw [hd] at h; cases h
      | some d' =>
        rw [hd] at h
        simp only at h
        cases hq : (ops[g]?).bind (·.dst) with
        | none => rw [hq] at h; cases h
        | some dg =>
          rw [hq] at h
          simp only at h
          cases hl : look ρ dg with
          | none => rw [hl] at h; cases h
          | some u =>
            rw [hl] at h
            cases u with
            | bool b' =>
              simp only at h
              cases hb : Nat.blt d' N
              · rw [hb] at h; cases h
              · rw [hb] at h
                cases h
                exact ⟨g, dg, rfl, hg, hd, hq, hl, hb⟩
            | _ => cases h
theorem gn (h : stG ops ρ i N = some (o, d, b, c)) (hb : b = c) (hx : Ex P ρ w o v w') (k : Ops P ops N ((d, v) :: ρ) w' Q is) : Ops P ops N ρ w Q (i :: is) := let ⟨_, _, h1, h2, h3, h4, h5, h6⟩ := stG_some h; ops_ex h1 (guard_on h2 h4 h5 hb) h3 h6 hx k
theorem gf (h : stG ops ρ i N = some (o, d, b, c)) (hb : b = !c) (k : Ops P ops N ((d, undef) :: ρ) w Q is) : Ops P ops N ρ w Q (i :: is) := let ⟨_, _, h1, h2, h3, h4, h5, h6⟩ := stG_some h; ops_off h1 (guard_off h2 h4 h5 hb) h3 h6 k
end ops
def frt : List Chunk → Nat → Option (Chunk × List Chunk)
  | [], _ => none
  | C :: M, 0 => some (C, M)
  | C :: M, j + 1 => match frt M j with
    | none => none
    | some (D, M') => some (D, C :: M')
theorem frt_some : ∀ {M M' : List Chunk} {j : Nat} {C : Chunk}, frt M j = some (C, M') → M[j]? = some C ∧ M.eraseIdx j = M'
  | [], _, _, _, h => by cases h
  | D :: M, _, 0, _, h => by cases h; exact ⟨rfl, rfl⟩
  | D :: M, M', j + 1, C, h => by
    unfold frt at h
    cases hf : frt M j with
    | none => rw [hf] at h; cases h
    | some q =>
      obtain ⟨E, L⟩ := q
      rw [hf] at h
      cases h
      obtain ⟨h1, h2⟩ := frt_some hf
      exact ⟨by simpa using h1, by simp [h2]⟩
def apl : List Chunk → List Chunk → Option (List Chunk)
  | [], M => some M
  | C :: M', M => match apl M' M with
    | none => none
    | some L => some (C :: L)
theorem apl_some : ∀ {M' M L : List Chunk}, apl M' M = some L → M' ++ M = L
  | [], M, L, h => by cases h; rfl
  | C :: M', M, L, h => by
    unfold apl at h
    cases hf : apl M' M with
    | none => rw [hf] at h; cases h
    | some q => rw [hf] at h; cases h; rw [List.cons_append, apl_some hf]
def cutL : Nat → List Chunk → Option (List Chunk × List Chunk)
  | 0, M => some ([], M)
  | _ + 1, [] => none
  | n + 1, C :: M => match cutL n M with
    | none => none
    | some (A, B) => some (C :: A, B)
theorem cutL_some : ∀ {n : Nat} {M A B : List Chunk}, cutL n M = some (A, B) → A ++ B = M
  | 0, M, A, B, h => by cases h; rfl
  | n + 1, [], A, B, h => by cases h
  | n + 1, C :: M, A, B, h => by
    unfold cutL at h
    cases hf : cutL n M with
    | none => rw [hf] at h; cases h
    | some q =>
      obtain ⟨A', B'⟩ := q
      rw [hf] at h
      cases h
      rw [List.cons_append, cutL_some hf]
section mems
variable {w0 w w' wo : World} {X : List Nat} {M M' L A B : List Chunk} {C : Chunk}
theorem Mem.fr1 (h : Mem w0 X w M) (j : Nat) (e : frt M j = some (C, M')) : Mem w0 X w (C :: M') := h.front j (frt_some e).1 (frt_some e).2
theorem Mem.frd (h : Mem w0 X w M) (j : Nat) (e : frt M j = some (C, M')) : Mem w0 X w M' := (h.fr1 j e).drop
theorem Mem.callN (h : Mem w0 X w M) (k : Mem w [] w' M') (e : apl M' M = some L) : Mem w0 X w' L := apl_some e ▸ h.call k
theorem Mem.sufN (h : Mem w0 X w M) (n : Nat) (e : cutL n M = some (A, B)) : Mem w0 X w B := Mem.suf (M := A) (cutL_some e ▸ h)
theorem Mem.hideN (h : Mem w0 X w M) (n : Nat) (e : cutL n M = some (A, B)) : ∃ F, Hold w A F ∧ F.Nodup ∧ (∀ b ∈ F, b < w.heap.size) ∧ Mem w0 X (hideB w F) B ∧ (∀ w' Ms' L, apl Ms' B = some L → Mem w F w' Ms' → Mem w0 X w' L) := by
  have h' : Mem w0 X w (A ++ B) := cutL_some e ▸ h
  obtain ⟨F, h1, h2, h3, h4, h5⟩ := h'.hide
  exact ⟨F, h1, h2, h3, h4, fun w' Ms' L e' k => apl_some e' ▸ h5 w' Ms' k⟩
end mems
theorem Sub.of {ρ : Env} : ∀ {ρ' : Env}, (ρ'.map fun p => Zk.look ρ p.1) = ρ'.map (fun p => some p.2) → Sub ρ ρ'
  | [], _ => .nil
  | (k, v) :: r, h => by
    rw [List.map_cons, List.map_cons] at h
    exact .cons (List.cons.inj h).1 (Sub.of (List.cons.inj h).2)
def setc : Nat → List Value → List Value → Option (List Value)
  | _, [], cs => some cs
  | _, _ :: _, [] => none
  | 0, v :: vs, _ :: cs => match setc 0 vs cs with
    | none => none
    | some r => some (v :: r)
  | k + 1, v :: vs, c :: cs => match setc k (v :: vs) cs with
    | none => none
    | some r => some (c :: r)
section st
variable {P : Program} {ρ : Env} {w w0 : World} {X : List Nat} {M : List Chunk} {o : Oper}
end st
def tkL : Nat → List Value → Option (List Value)
  | 0, _ => some []
  | _ + 1, [] => none
  | n + 1, c :: cs => match tkL n cs with
    | none => none
    | some r => some (c :: r)
theorem tkL_some : ∀ {n : Nat} {cs r : List Value}, tkL n cs = some r → cs.take n = r
  | 0, cs, r, h => by cases h; rfl
  | n + 1, [], r, h => by cases h
  | n + 1, c :: cs, r, h => by
    unfold tkL at h
    cases hs : tkL n cs with
    | none => rw [hs] at h; cases h
    | some q => rw [hs] at h; cases h; rw [List.take_succ_cons, tkL_some hs]
def subC : Nat → Nat → List Value → Option (List Value)
  | 0, m, cs => tkL m cs
  | _ + 1, _, [] => none
  | n + 1, m, _ :: cs => subC n m cs
theorem subC_some : ∀ {n m : Nat} {cs r : List Value}, subC n m cs = some r → (cs.drop n).take m = r
  | 0, m, cs, r, h => tkL_some h
  | n + 1, m, [], r, h => by cases h
  | n + 1, m, c :: cs, r, h => by
    rw [List.drop_succ_cons]; exact subC_some h
theorem CellsAt.subL {w : World} {b o : Nat} {cs cs' : List Value} (h : CellsAt w b o cs) (n m : Nat) (he : subC n m cs = some cs') : CellsAt w b (o + n) cs' := h.sub n m (subC_some he)
theorem ldN {P : Program} {ρ : Env} {w : World} {o : Oper} {t : TypeId} {p : Operand} {d : TypeDesc} {b off n : Nat} {cs : List Value} (h : o.op = .load t p) (hp : ev ρ p = some (.pointer (some ⟨b, off, none⟩))) (hu : P.underlying t = some d) (ha : aggD d = true)
    (hs : tsz P t = some n) (hc : CellsAt w b off cs) (hl : cs.length = n) : Ex P ρ w o (.agg cs.toArray) w := ex_loadN h hp hu ha hs hl hc
theorem sj {α : Type} {a b : α} (h : some a = some b) : a = b := Option.some.inj h
abbrev nI (x : Int) : Value := .int .i64 x
abbrev pA (b n : Nat) : Value := .pointer (some ⟨b, n, none⟩)
end Go.Proofs.YtecgbhfgkkpmhacGreat.Zk
