/- What functions of the program compute, each as a plain function, and that they do. Conditions: as each theorem states them. -/
import Derived.Test.YtbbcabpnkdilgaaFnMembersZkF6
namespace Go.Proofs.Ytbbcabpnkdilgaa.Zk
open Go Go.RowKit Go.IntWalk Go.Proofs
set_option linter.unusedVariables false
set_option linter.unusedSimpArgs false
set_option maxRecDepth 100000
set_option maxHeartbeats 4000000
def slices_ContainsFunc_impl_Member_v2.f (k : Nat) (x0 : List Member) (x1_0 : Ref) : Option Bool := ((slices_IndexFunc_impl_Member_v3.f k x0 x1_0).bind fun t4643 => some (decide (0 ≤ t4643)))
theorem slices_ContainsFunc_impl_Member_v2.calls {k : Nat} {x0 : List Member} {x1_0 : Ref} {p0 : Value} {b1_0 f1_0 : Nat} {w : World} (hp0 : RdS kMember w p0 x0) (hc1_0 : CellsAt w b1_0 f1_0 [.int .i64 x1_0.fTx, .int .i64 x1_0.fAt]) {r : Bool} (H : slices_ContainsFunc_impl_Member_v2.f k x0 x1_0 = some r) :
    Calls Try.prog 64 ([p0, .func (.func 114) #[] #[(.pointer (some ⟨b1_0, f1_0, none⟩))]] : List Value).toArray w (fun e w_ => ∃ v, e = .returned v ∧ v = (.bool r) ∧ Mem w [] w_ []) := by
  have HM := Mem.start w
  refine calls_run (N := 9) Try.func64 rfl rfl rfl rfl ?_
  unfold slices_ContainsFunc_impl_Member_v2.f at H
  refine run_seq ?_
  refine run_region rfl ?_
  refine ox rfl rfl rfl rfl (ex_assign rfl rfl) ?_
  refine ops_nil (at_then (run_seq ?_))
  obtain ⟨t4643, h4644, H⟩ := bind_some H
  refine run_region rfl ?_
  refine ox rfl rfl rfl rfl (ex_move rfl rfl) ?_
  refine ox rfl rfl rfl rfl (ex_move rfl rfl) ?_
  refine od rfl rfl rfl rfl (does_callk rfl callok124 rfl (slices_IndexFunc_impl_Member_v3.calls (x0 := x0) (x1_0 := x1_0) (HM.rd hp0) (HM.at_ hc1_0) h4644)) ?_
  rintro _ w4645 ⟨rfl, hn⟩
  replace HM : Mem w [] w4645 [] := HM.call hn
  refine ox rfl rfl rfl rfl (ex_geq rfl rfl rfl) ?_
  refine ox rfl rfl rfl rfl (ex_assign rfl rfl) ?_
  refine ops_nil (at_then ?_)
  refine run_ret ?_
  have hR := Option.some.inj H
  subst hR
  exact at_ret1 rfl rfl ⟨_, rfl, rfl, HM⟩

theorem cells_put {V : Type} (Ls ds A : List V) (a p : Nat) (hA : A.take a = Ls.take a) (ha : a ≤ Ls.length) (hp : p = a + ds.length) (hl : A.length = Ls.length + ds.length) :
    (A.take a ++ ds ++ A.drop (a + ds.length)).take p ++ Ls.drop a ++ (A.take a ++ ds ++ A.drop (a + ds.length)).drop (p + (Ls.drop a).length) = Ls.take a ++ ds ++ Ls.drop a := by
  have h1 : (A.take a ++ ds).length = p := by rw [hA, List.length_append, List.length_take, hp]; omega
  have h2 : (A.take a ++ ds ++ A.drop (a + ds.length)).drop (p + (Ls.drop a).length) = [] := List.drop_of_length_le (by rw [List.length_append, h1, List.length_drop, List.length_drop]; omega)
  rw [h2, List.take_append_of_le_length (by omega), List.take_of_length_le (by omega), List.append_nil, hA]
theorem cells_shift {V : Type} (Ls ds js : List V) (a p : Nat) (ha : a ≤ Ls.length) (hp : p = a + ds.length) (hl : (Ls ++ js).length = Ls.length + ds.length) :
    ((Ls ++ js).take p ++ Ls.drop a ++ (Ls ++ js).drop (p + (Ls.drop a).length)).take a ++ ds ++ ((Ls ++ js).take p ++ Ls.drop a ++ (Ls ++ js).drop (p + (Ls.drop a).length)).drop (a + ds.length) = Ls.take a ++ ds ++ Ls.drop a := by
  have h1 : ((Ls ++ js).take p).length = p := by rw [List.length_take, hl, hp]; omega
  have h2 : (Ls ++ js).drop (p + (Ls.drop a).length) = [] := List.drop_of_length_le (by rw [hl, List.length_drop]; omega)
  rw [h2, List.append_nil, List.take_append_of_le_length (by omega), List.take_take, Nat.min_eq_left (by omega), List.take_append_of_le_length ha, ← hp, List.drop_append_of_le_length (by omega), List.drop_of_length_le (by omega), List.nil_append]
theorem Mem.rawLe {w w0 : World} {X : List Nat} {M : List Chunk} {T sz n c g : Nat} {cs : List Value} (hn : 0 < n) (h : Mem w0 X w (raw T sz (.slice (some ⟨g, 0, none⟩) n c) n cs :: M)) : n ≤ c ∧ c ≤ maxLen := by
  obtain ⟨g', c', he, h1, h2⟩ := h.rawAt hn
  injection he with e1 e2 e3
  subst e3
  exact ⟨h1, h2⟩
theorem Mem.rawApart {w w0 : World} {X : List Nat} {M : List Chunk} {T T' sz sz' n m c c' g b : Nat} {cs ds : List Value} (hn : 0 < n) (hm : 0 < m) (h : Mem w0 X w (raw T sz (.slice (some ⟨g, 0, none⟩) n c) n cs :: raw T' sz' (.slice (some ⟨b, 0, none⟩) m c') m ds :: M)) : b ≠ g := by
  have key : ∀ {T sz n c g : Nat} {cs : List Value} {f : List Nat}, 0 < n → RowC w T sz (.slice (some ⟨g, 0, none⟩) n c) n cs f → f = [g] := by
    intro T sz n c g cs f hn hr
    rcases hr with ⟨A, h9, h0, _⟩ | ⟨g', c', cur, h9, _, _, _, _, _, rfl⟩
    · omega
    · injection h9 with e1 e2 e3
      injection e1 with e1
      injection e1 with e1
      rw [e1]
  obtain ⟨F, h1, h2, h3⟩ := h.hold
  cases h1 with
  | cons hc hM =>
    cases hM with
    | cons hc2 hM2 =>
      have e1 := key hn hc; have e2 := key hm hc2
      subst e1; subst e2
      intro e
      subst e
      simp at h2
theorem run_ov {w : World} {b g o2 m c2 lb cb : Nat} {kA kB : Nat} (hne : b ≠ g) (hsa : w.shape? b = some (38, kA)) (hsb : w.shape? g = some (38, kB)) (hkB : kB ≠ 0) (hfa : ∀ i, w.frozen? ⟨b, i, none⟩ = false) :
    (callFunc 149 (([.slice (some ⟨b, 0, none⟩) m c2, .slice (some ⟨g, o2, none⟩) lb cb] : List Value).toArray)).run Try.prog w = .ok (.value (.bool false)) w := by
  have h := Lib.run_overlaps_apart (P := Try.prog) w 24 4 38 Try.underlying24 3 (fun w => run_sizeOf tsz38) ⟨b, 0, none⟩ ⟨g, o2, none⟩ m c2 lb cb hne 38 38 kA kB hsa hsb hkB (hfa 0) (hfa kA)
  rw [run_callFunc_extern Try.func149 (by kernel_rfl) (by kernel_rfl) (by kernel_rfl) (e := Extern.SlicesOverlaps.overlaps #[24, 24] #[4]) (by kernel_rfl)]
  simp only [Sem.run_bind, h, Result.andThen_ok]
  try rfl
def slices_Insert_Member.f (k : Nat) (x0 : List Member) (x1 : Int) (x2 : List Member) : Option (List Member) := (chk (cutOk x1 x0.length && (leB 1 x2.length && leB ((x0.length + x2.length) * 24) 140737488355328)) (some (x0.take x1.toNat ++ x2 ++ x0.drop x1.toNat)))
theorem slices_Insert_Member.calls {k : Nat} {x0 : List Member} {x1 : Int} {x2 : List Member} {p0 p2 : Value} {w wo : World} {X : List Nat} (hwo : Olds wo w X) (hX : Hold w [own kMember 38 p0 x0, own kMember 38 p2 x2] X) (hXn : X.Nodup) (hXl : ∀ b ∈ X, b < w.heap.size) {r : List Member} (H : slices_Insert_Member.f k x0 x1 x2 = some r) :
    Calls Try.prog 115 ([p0, .int .i64 x1, p2] : List Value).toArray w (fun e w_ => ∃ v, e = .returned v ∧ ∃ u0 : Value, v = u0 ∧ Mem w X w_ [own kMember 38 u0 r]) := by
  have HM := Mem.startX hX hXn hXl
  obtain ⟨h, H⟩ := chk_some H
  have hR := Option.some.inj H
  subst hR
  rw [Bool.and_eq_true, Bool.and_eq_true] at h
  have hi0 := cut_lo h.1; have hi1 := cut_hi h.1; have hm := leB_le h.2.1; have hbig := leB_le h.2.2; have hco := h.1
  obtain ⟨i, rfl⟩ : ∃ i : Nat, x1 = (i : Int) := ⟨x1.toNat, (Int.toNat_of_nonneg hi0).symm⟩
  simp only [Int.toNat_natCast] at hi1 ⊢
  have hsm : x0.length + x2.length ≤ 140737488355328 := Nat.le_trans (Nat.le_mul_of_pos_right _ (by decide)) hbig
  have hnm : wrap64 ((x0.length : Int) + (x2.length : Int)) = ((x0.length + x2.length : Nat) : Int) := by rw [wrap64_in _ (by omega)]; omega
  have him : wrap64 ((i : Int) + (x2.length : Int)) = ((i + x2.length : Nat) : Int) := by rw [wrap64_in _ (by omega)]; omega
  have hqq : wrap64 (((x0.length + x2.length : Nat) : Int) - (i : Int)) = ((x0.length + x2.length - i : Nat) : Int) := by rw [wrap64_in _ (by omega)]; omega
  refine calls_run (N := 95) Try.func115 rfl rfl rfl rfl ?_
  refine run_seq ?_
  refine run_region rfl ?_
  refine ox rfl rfl rfl rfl (ex_assign rfl rfl) ?_
  refine ops_nil (at_then ?_)
  refine run_seq ?_
  refine run_region rfl ?_
  refine ox rfl rfl rfl rfl (ex_move rfl rfl) ?_
  refine ox rfl rfl rfl rfl (ex_move rfl rfl) ?_
  refine ox rfl rfl rfl rfl (ex_cutvL (d := kMember) rfl rfl rfl Try.underlying24 tsz38 (HM.own_rd 0 rfl) hco) ?_
  refine ops_nil (at_then ?_)
  refine run_seq ?_
  refine run_region rfl ?_
  refine ox rfl rfl rfl rfl (ex_move rfl rfl) ?_
  refine ox rfl rfl rfl rfl (ex_len (d := kMember) (xs := x2) rfl rfl Try.underlying24 (HM.own_rd 1 rfl)) ?_
  refine ox rfl rfl rfl rfl (ex_assign rfl rfl) ?_
  refine ops_nil (at_then ?_)
  refine run_seq ?_
  refine run_seq ?_
  refine run_region rfl ?_
  refine ox rfl rfl rfl rfl (ex_move rfl rfl) ?_
  refine ox rfl rfl rfl rfl (ex_eql rfl rfl rfl) ?_
  refine ops_nil (at_then ?_)
  refine run_cond (b := ((x2.length : Int) == 0)) rfl (fun hb => absurd hb (by rw [beq_false_of_ne (by omega)]; exact Bool.false_ne_true)) (fun hb => ?_)
  refine run_skip ?_
  refine at_then ?_
  refine run_seq ?_
  refine run_region rfl ?_
  refine ox rfl rfl rfl rfl (ex_move rfl rfl) ?_
  refine ox rfl rfl rfl rfl (ex_len (d := kMember) (xs := x0) rfl rfl Try.underlying24 (HM.own_rd 0 rfl)) ?_
  refine ox rfl rfl rfl rfl (ex_assign rfl rfl) ?_
  refine ops_nil (at_then ?_)
  refine run_seq ?_
  refine run_seq ?_
  refine run_region rfl ?_
  refine ox rfl rfl rfl rfl (ex_move rfl rfl) ?_
  refine ox rfl rfl rfl rfl (ex_move rfl rfl) ?_
  refine ox rfl rfl rfl rfl (ex_eql rfl rfl rfl) ?_
  refine ops_nil (at_then ?_)
  refine run_cond (b := ((i : Int) == (x0.length : Int))) rfl (fun hb => ?_) (fun hb => ?_)
  · have hin : i = x0.length := by
      have : (i : Int) = (x0.length : Int) := by simpa using hb
      omega
    refine run_seq ?_
    refine run_region rfl ?_
    refine ox rfl rfl rfl rfl (ex_move rfl rfl) ?_
    refine ox rfl rfl rfl rfl (ex_move rfl rfl) ?_
    refine od rfl rfl rfl rfl (does_append kMember rfl rfl rfl Try.underlying24 tsz38 rfl tby38 tz38 rfl rfl hbig HM) ?_
    rintro v1 w1 HM
    refine ox rfl rfl rfl rfl (ex_assign rfl rfl) ?_
    refine ops_nil (at_then ?_)
    refine run_ret ?_
    refine at_then_ret ?_
    rw [hin, List.take_of_length_le (Nat.le_refl _), List.drop_of_length_le (Nat.le_refl _), List.append_nil]
    exact at_ret1 rfl rfl ⟨_, rfl, _, rfl, HM⟩
  · have hin : i < x0.length := by
      have : ¬ ((i : Int) = (x0.length : Int)) := by simpa using hb
      omega
    obtain ⟨cs, hE, HM⟩ := HM.toRaw flat_plain
    obtain ⟨g, c, hp, hnc, hcm⟩ := HM.rawAt (by omega)
    subst hp
    replace HM := HM.front 1 rfl rfl
    obtain ⟨ds, hE2, HM⟩ := HM.toRaw flat_plain
    obtain ⟨b, c2, hp2, hnc2, hcm2⟩ := HM.rawAt (by omega)
    subst hp2
    replace HM := HM.front 1 rfl rfl
    have hbg := HM.rawApart (by omega) (by omega)
    have hl1 : cs.length = x0.length * 3 := (hE w).length
    have hl2 : ds.length = x2.length * 3 := (hE2 w).length
    have ho1 := (hE w).one; have ho2 := (hE2 w).one
    have hEE : ∀ w', Elems kMember w' (cs.take (i * 3) ++ ds ++ cs.drop (i * 3)) (x0.take i ++ x2 ++ x0.drop i) [] := fun w' => by
      obtain ⟨f1, f2, hf, e1, e2⟩ := (hE w').cut i (by omega)
      obtain ⟨rfl, rfl⟩ : f1 = [] ∧ f2 = [] := by simpa using hf.symm
      exact (e1.append (hE2 w')).append e2
    have hNN : (x0.take i ++ x2 ++ x0.drop i).length = x0.length + x2.length := by simp; omega
    have hdl : (cs.drop (i * 3)).length = (x0.length - i) * 3 := by rw [List.length_drop, hl1]; omega
    have ho3 : ∀ u ∈ cs.drop (i * 3), u.oneCell' = true := fun u hu => ho1 u (List.mem_of_mem_drop hu)
    refine run_skip ?_
    refine at_then ?_
    refine run_seq ?_
    refine run_seq ?_
    refine run_region rfl ?_
    refine ox rfl rfl rfl rfl (ex_move rfl rfl) ?_
    refine ox rfl rfl rfl rfl (ex_move rfl rfl) ?_
    refine ox rfl rfl rfl rfl (ex_addc rfl rfl rfl hnm) ?_
    refine ox rfl rfl rfl rfl (ex_move rfl rfl) ?_
    refine ox rfl rfl rfl rfl (ex_cap rfl rfl Try.underlying24) ?_
    refine ox rfl rfl rfl rfl (ex_gtr rfl rfl rfl) ?_
    refine ops_nil (at_then ?_)
    refine run_cond (b := (decide ((c : Int) < ((x0.length + x2.length : Nat) : Int)))) rfl (fun hb2 => ?_) (fun hb2 => ?_)
    · have hroom : c < x0.length + x2.length := by have := of_decide_eq_true hb2; omega
      have hik : i + (x0.length + x2.length - i) = x0.length + x2.length := by omega
      refine run_seq ?_
      refine run_region rfl ?_
      refine ox rfl rfl rfl rfl (ex_move rfl rfl) ?_
      refine ox rfl rfl rfl rfl (ex_move rfl rfl) ?_
      refine ox rfl rfl rfl rfl (ex_slH (m := i) rfl rfl rfl Try.underlying24 tsz38 hnc (by omega)) ?_
      refine ox rfl rfl rfl rfl (ex_move rfl rfl) ?_
      refine ox rfl rfl rfl rfl (ex_move rfl rfl) ?_
      refine ox rfl rfl rfl rfl (ex_addc rfl rfl rfl hnm) ?_
      refine ox rfl rfl rfl rfl (ex_move rfl rfl) ?_
      refine ox rfl rfl rfl rfl (ex_subc rfl rfl rfl hqq) ?_
      refine od rfl rfl rfl rfl (does_appMk (z := _) rfl rfl rfl Try.underlying24 Try.underlying3 tsz38 tby38 tz38 rfl (by decide) hin (by omega) (by omega) (by rw [hik]; exact hbig) (by rw [hik]; simp only [maxLen]; omega) HM) ?_
      rintro _ w1 ⟨g2, c3, zs, rfl, hzs, HM⟩
      simp only [hik] at HM ⊢
      have hc3 := HM.rawLe (by omega)
      refine ox rfl rfl rfl rfl (ex_assign rfl rfl) ?_
      refine ops_nil (at_then ?_)
      refine run_seq ?_
      refine run_region rfl ?_
      refine ox rfl rfl rfl rfl (ex_move rfl rfl) ?_
      refine ox rfl rfl rfl rfl (ex_move rfl rfl) ?_
      refine ox rfl rfl rfl rfl (ex_slL (l := i) rfl rfl rfl Try.underlying24 tsz38 hc3.1 (by omega) (by omega)) ?_
      refine ox rfl rfl rfl rfl (ex_move rfl rfl) ?_
      have hmin : Nat.min x2.length (x0.length + x2.length - i) = x2.length := by simp only [Nat.min_def]; split <;> omega
      refine od rfl rfl rfl rfl (does_copyR (k := i) (q := 0) (ds := ds) rfl rfl rfl Try.underlying24 tsz38 (fun j u hj => by rw [Nat.zero_add]; exact (HM.rawCell (by omega) 2 rfl).1 j u hj) ho2 (by rw [hl2, hmin]) (by omega) (by omega) HM) ?_
      rintro _ w2 HM
      refine ops_nil (at_then ?_)
      refine run_seq ?_
      refine run_drawf (fun _ => True) [(0, true), (1, true), (2, true), (3, true), (4, true), (5, true), (6, true), (7, true), (8, false)] mixed rfl rfl (by kernel_rfl) ?_
      replace HM := HM.grow (fr_drew _)
      refine dp rfl rfl rfl rfl (ex_move rfl rfl) trivial ?_
      refine dp rfl rfl rfl rfl (ex_move rfl rfl) trivial ?_
      refine dp rfl rfl rfl rfl (ex_move rfl rfl) trivial ?_
      refine dp rfl rfl rfl rfl (ex_addc rfl rfl rfl him) trivial ?_
      refine dp rfl rfl rfl rfl (ex_slL (l := i + x2.length) rfl rfl rfl Try.underlying24 tsz38 hc3.1 (by omega) (by omega)) trivial ?_
      refine dp rfl rfl rfl rfl (ex_move rfl rfl) trivial ?_
      refine dp rfl rfl rfl rfl (ex_move rfl rfl) trivial ?_
      refine dp rfl rfl rfl rfl (ex_slL (l := i) rfl rfl rfl Try.underlying24 tsz38 hnc (by omega) (by omega)) trivial ?_
      have hmin2 : Nat.min (x0.length - i) (x0.length + x2.length - (i + x2.length)) = x0.length - i := by simp only [Nat.min_def]; split <;> omega
      refine drwp_one rfl (guard_none rfl) rfl rfl (does_copyR (k := i + x2.length) (q := i * 3) (ds := cs.drop (i * 3)) rfl rfl rfl Try.underlying24 tsz38 (fun j u hj => (HM.rawCell (by omega) 1 rfl).1 _ u (by rwa [List.getElem?_drop] at hj)) ho3 (by rw [hdl, hmin2]) (by omega) (by omega) HM) ?_
      rintro _ w3 HM
      refine ⟨trivial, ?_⟩
      refine drwp_done ?_
      refine at_then ?_
      refine run_seq ?_
      refine run_region rfl ?_
      refine ox rfl rfl rfl rfl (ex_move rfl rfl) ?_
      refine ox rfl rfl rfl rfl (ex_assign rfl rfl) ?_
      refine ops_nil (at_then ?_)
      refine run_ret ?_
      refine at_then_ret ?_
      have htk : (cs.take (i * 3)).length = i * 3 := by rw [List.length_take, hl1]; omega
      rw [cells_put cs ds (cs.take (i * 3) ++ zs) (i * 3) ((i + x2.length) * 3) (by rw [List.take_append_of_le_length (by omega), List.take_of_length_le (by omega)]) (by omega) (by omega) (by rw [List.length_append, htk, hzs]; omega)] at HM
      replace HM := Mem.ofRaw hEE hNN HM
      replace HM := (HM.front 1 rfl rfl).drop
      replace HM := (HM.front 1 rfl rfl).drop
      exact at_ret1 rfl rfl ⟨_, rfl, _, rfl, HM⟩
    · have hroom : x0.length + x2.length ≤ c := by have := of_decide_eq_false hb2; omega
      refine run_skip ?_
      refine at_then ?_
      refine run_seq ?_
      refine run_region rfl ?_
      refine ox rfl rfl rfl rfl (ex_move rfl rfl) ?_
      refine ox rfl rfl rfl rfl (ex_move rfl rfl) ?_
      refine ox rfl rfl rfl rfl (ex_move rfl rfl) ?_
      refine ox rfl rfl rfl rfl (ex_addc rfl rfl rfl hnm) ?_
      refine ox rfl rfl rfl rfl (ex_slH (m := x0.length + x2.length) rfl rfl rfl Try.underlying24 tsz38 hnc hroom) ?_
      refine ox rfl rfl rfl rfl (ex_assign rfl rfl) ?_
      obtain ⟨js, hjs, HM⟩ := HM.rawExt (m := x0.length + x2.length) (by omega) (by omega) hroom
      refine ops_nil (at_then ?_)
      refine run_seq ?_
      refine run_seq ?_
      refine run_region rfl ?_
      refine ox rfl rfl rfl rfl (ex_move rfl rfl) ?_
      refine ox rfl rfl rfl rfl (ex_move rfl rfl) ?_
      refine ox rfl rfl rfl rfl (ex_move rfl rfl) ?_
      refine ox rfl rfl rfl rfl (ex_move rfl rfl) ?_
      refine ox rfl rfl rfl rfl (ex_addc rfl rfl rfl him) ?_
      refine ox rfl rfl rfl rfl (ex_slL (l := i + x2.length) rfl rfl rfl Try.underlying24 tsz38 hroom (by omega) (by omega)) ?_
      obtain ⟨_, ⟨kB, hsB, hkB⟩, hfB⟩ := HM.rawCell (by omega) 0 rfl
      obtain ⟨_, ⟨kA, hsA, hkA⟩, hfA⟩ := HM.rawCell (by omega) 1 rfl
      have hkB' : kB = c * 3 := hkB
      refine od rfl rfl rfl rfl (does_ext rfl rfl (run_ov hbg hsA hsB (by omega) hfA)) ?_
      rintro _ _ ⟨rfl, rfl⟩
      refine ox rfl rfl rfl rfl (ex_not rfl rfl) ?_
      refine ops_nil (at_then ?_)
      refine run_cond (b := (!false)) rfl (fun hb3 => ?_) (fun hb3 => absurd hb3 (by decide))
      refine run_seq ?_
      refine run_drawf (fun _ => True) [(0, true), (1, true), (2, true), (3, true), (4, true), (5, true), (6, true), (7, true), (8, false)] mixed rfl rfl (by kernel_rfl) ?_
      replace HM := HM.grow (fr_drew _)
      refine dp rfl rfl rfl rfl (ex_move rfl rfl) trivial ?_
      refine dp rfl rfl rfl rfl (ex_move rfl rfl) trivial ?_
      refine dp rfl rfl rfl rfl (ex_move rfl rfl) trivial ?_
      refine dp rfl rfl rfl rfl (ex_addc rfl rfl rfl him) trivial ?_
      refine dp rfl rfl rfl rfl (ex_slL (l := i + x2.length) rfl rfl rfl Try.underlying24 tsz38 hroom (by omega) (by omega)) trivial ?_
      refine dp rfl rfl rfl rfl (ex_move rfl rfl) trivial ?_
      refine dp rfl rfl rfl rfl (ex_move rfl rfl) trivial ?_
      refine dp rfl rfl rfl rfl (ex_slL (l := i) rfl rfl rfl Try.underlying24 tsz38 hroom (by omega) (by omega)) trivial ?_
      have hmin2 : Nat.min (x0.length + x2.length - i) (x0.length + x2.length - (i + x2.length)) = x0.length - i := by simp only [Nat.min_def]; split <;> omega
      refine drwp_one rfl (guard_none rfl) rfl rfl (does_copyR (k := i + x2.length) (q := i * 3) (ds := cs.drop (i * 3)) rfl rfl rfl Try.underlying24 tsz38 (fun j u hj => (HM.rawCell (by omega) 0 rfl).1 _ u (by rw [List.getElem?_drop] at hj; exact (List.getElem?_append_left (by have := (List.getElem?_eq_some_iff.1 hj).1; omega)).trans hj)) ho3 (by rw [hdl, hmin2]) (by omega) (by omega) HM) ?_
      rintro _ w3 HM
      refine ⟨trivial, ?_⟩
      refine drwp_done ?_
      refine at_then ?_
      refine run_seq ?_
      refine run_region rfl ?_
      refine ox rfl rfl rfl rfl (ex_move rfl rfl) ?_
      refine ox rfl rfl rfl rfl (ex_move rfl rfl) ?_
      refine ox rfl rfl rfl rfl (ex_slL (l := i) rfl rfl rfl Try.underlying24 tsz38 hroom (by omega) (by omega)) ?_
      refine ox rfl rfl rfl rfl (ex_move rfl rfl) ?_
      have hmin : Nat.min x2.length (x0.length + x2.length - i) = x2.length := by simp only [Nat.min_def]; split <;> omega
      refine od rfl rfl rfl rfl (does_copyR (k := i) (q := 0) (ds := ds) rfl rfl rfl Try.underlying24 tsz38 (fun j u hj => by rw [Nat.zero_add]; exact (HM.rawCell (by omega) 1 rfl).1 j u hj) ho2 (by rw [hl2, hmin]) (by omega) (by omega) HM) ?_
      rintro _ w4 HM
      refine ops_nil (at_then ?_)
      refine run_seq ?_
      refine run_region rfl ?_
      refine ox rfl rfl rfl rfl (ex_move rfl rfl) ?_
      refine ox rfl rfl rfl rfl (ex_assign rfl rfl) ?_
      refine ops_nil (at_then ?_)
      refine run_ret ?_
      refine at_then_ret ?_
      have hjs' : (cs ++ js).length = (x0.length + x2.length) * 3 := hjs
      rw [cells_shift cs ds js (i * 3) ((i + x2.length) * 3) (by omega) (by omega) (by omega)] at HM
      replace HM := Mem.ofRaw hEE hNN HM
      replace HM := (HM.front 1 rfl rfl).drop
      exact at_ret1 rfl rfl ⟨_, rfl, _, rfl, HM⟩

def impl_takeMembers.f (k : Nat) (x0 : List Member) (x1 : Tx) (x2 : Int) : Option ((List Member) × Int) := ((impl_isId.f k x2).bind fun t4674 => (bif !t4674 then some (([] : List Member), 3) else ((slices_Clone_impl_Member.f k x0).bind fun t4679 => ((bif (x1.fKind == 2) then ((impl_findMember.f k t4679 x1.fMember).bind fun t4720 => (bif !t4720.2 then some (.inl (([] : List Member), 4)) else ((slices_Delete_impl_Member.f k t4679 t4720.1 (wrap64 (t4720.1 + 1))).bind fun t4726 => some (.inr t4726)))) else some (.inr t4679)).bind fun o4717 => thn o4717 (fun r => some r) (fun a4715 => ((slices_DeleteFunc_impl_Member.f k a4715 x1).bind fun t4738 => (bif (x1.fKind != 1) then some (t4738, 0) else ((impl_findMember.f k t4738 x1.fMember).bind fun t4756 => ((bif (!t4756.2) then slices_ContainsFunc_impl_Member_v2.f k t4738 (⟨x2, 0⟩ : Ref) else some default).bind fun t4763 => (bif (t4756.2 || t4763) then some (([] : List Member), 7) else (bif ((t4738.length : Int) == 8) then some (([] : List Member), 2) else ((slices_Insert_Member.f k t4738 t4756.1 ([(⟨x1.fMember, (⟨x2, 0⟩ : Ref)⟩ : Member)] : List Member)).bind fun t4776 => some (t4776, 0)))))))))))))
theorem impl_takeMembers.calls {k : Nat} {x0 : List Member} {x1 : Tx} {x2 : Int} {p0 : Value} {p1_0 : Value} {p1_1 : Value} {w : World} (hp0 : RdS kMember w p0 x0) (hp1_0 : RdS kRef w p1_0 x1.fIns) (hp1_1 : RdS kOut w p1_1 x1.fOuts) {r : (List Member) × Int} (H : impl_takeMembers.f k x0 x1 x2 = some r) :
    Calls Try.prog 55 ([p0, .agg #[(.int .i64 x1.fKind), (.int .i64 x1.fMember), p1_0, p1_1], .int .i64 x2] : List Value).toArray w (fun e w_ => ∃ v, e = .returned v ∧ ∃ u0 : Value, v = (.tuple #[u0, .int .i64 r.2]) ∧ Mem w [] w_ [own kMember 38 u0 r.1]) := by
  have HM := Mem.start w
  refine calls_run (N := 71) Try.func55 rfl rfl rfl rfl ?_
  unfold impl_takeMembers.f at H
  refine run_seq ?_
  refine run_region rfl ?_
  refine od rfl rfl rfl rfl (does_box (cs := [.int .i64 x1.fKind, .int .i64 x1.fMember, p1_0, p1_1]) rfl rfl rfl HM) ?_
  rintro _ w4670 ⟨b4667, rfl, HM⟩
  refine ox rfl rfl rfl rfl (ex_assign rfl rfl) ?_
  refine ox rfl rfl rfl rfl (ex_assign rfl rfl) ?_
  refine ops_nil (at_then (run_seq ?_))
  refine run_seq ?_
  obtain ⟨t4674, h4675, H⟩ := bind_some H
  refine run_region rfl ?_
  refine ox rfl rfl rfl rfl (ex_move rfl rfl) ?_
  refine od rfl rfl rfl rfl (does_callk rfl callok109 rfl (impl_isId.calls (x0 := x2) h4675)) ?_
  rintro _ w4676 ⟨rfl, hn⟩
  replace HM : Mem w [] w4676 [box b4667 28 [.int .i64 x1.fKind, .int .i64 x1.fMember, p1_0, p1_1]] := HM.call hn
  refine ox rfl rfl rfl rfl (ex_not rfl rfl) ?_
  refine ops_nil (at_then ?_)
  refine run_cond (b := !t4674) rfl (fun hb4677 => ?_) (fun hb4677 => ?_)
  · replace H := cond_t hb4677 H
    refine run_seq ?_
    refine run_region rfl ?_
    refine ox rfl rfl rfl rfl (ex_assign rfl rfl) ?_
    refine ox rfl rfl rfl rfl (ex_assign rfl rfl) ?_
    refine ops_nil (at_then ?_)
    refine run_ret ?_
    refine at_then_ret ?_
    replace HM := HM.empty kMember 38 none
    replace HM := (HM.front 1 rfl rfl).drop
    have hR := Option.some.inj H
    subst hR
    exact at_ret2 rfl rfl rfl ⟨_, rfl, _, rfl, HM⟩
  · replace H := cond_f hb4677 H
    refine run_skip ?_
    refine at_then ?_
    refine run_seq ?_
    obtain ⟨t4679, h4680, H⟩ := bind_some H
    refine run_region rfl ?_
    refine ox rfl rfl rfl rfl (ex_move rfl rfl) ?_
    refine od rfl rfl rfl rfl (does_callk rfl callok110 rfl (slices_Clone_impl_Member.calls (x0 := x0) (HM.rd hp0) h4680)) ?_
    rintro u4681 w4683 ⟨_, rfl, hn⟩
    replace HM : Mem w [] w4683 [own kMember 38 u4681 t4679, box b4667 28 [.int .i64 x1.fKind, .int .i64 x1.fMember, p1_0, p1_1]] := HM.call hn
    refine ox rfl rfl rfl rfl (ex_assign rfl rfl) ?_
    refine ops_nil (at_then ?_)
    obtain ⟨o4717, ho4718, H⟩ := bind_some H
    refine run_mid (fun ρ_ w_ => ∃ v4714 : Value, ∃ a4715 : List Member, Sum.inr a4715 = o4717 ∧ ρ_ = [(2, .int .i64 x2), (4, .pointer (some ⟨b4667, 0, none⟩)), (8, v4714)] ∧ Mem w [] w_ [box b4667 28 [.int .i64 x1.fKind, .int .i64 x1.fMember, p1_0, p1_1], own kMember 38 v4714 a4715]) ?_ ?_
    · skip
      refine run_seq ?_
      refine run_region rfl ?_
      refine ox rfl rfl rfl rfl (ex_fieldAddr (off' := 0) rfl rfl Try.underlying28 rfl tsz2 rfl) ?_
      refine ox rfl rfl rfl rfl (ex_load1 rfl rfl Try.underlying2 rfl ((HM.box_at 1 rfl) 0 _ rfl)) ?_
      refine ox rfl rfl rfl rfl (ex_eql rfl rfl rfl) ?_
      refine ops_nil (at_then ?_)
      refine run_cond (b := (x1.fKind == 2)) rfl (fun hb4719 => ?_) (fun hb4719 => ?_)
      · replace ho4718 := cond_t hb4719 ho4718
        refine run_seq ?_
        obtain ⟨t4720, h4721, ho4718⟩ := bind_some ho4718
        refine run_region rfl ?_
        refine ox rfl rfl rfl rfl (ex_move rfl rfl) ?_
        refine ox rfl rfl rfl rfl (ex_fieldAddr (off' := 1) rfl rfl Try.underlying28 rfl tsz2 rfl) ?_
        refine ox rfl rfl rfl rfl (ex_load1 rfl rfl Try.underlying2 rfl ((HM.box_at 1 rfl) 1 _ rfl)) ?_
        refine od rfl rfl rfl rfl (does_callk rfl callok60 rfl (impl_findMember.calls (x0 := t4679) (x1 := x1.fMember) (HM.own_rd 0 rfl) h4721)) ?_
        rintro _ w4722 ⟨rfl, hn⟩
        replace HM : Mem w [] w4722 [own kMember 38 u4681 t4679, box b4667 28 [.int .i64 x1.fKind, .int .i64 x1.fMember, p1_0, p1_1]] := HM.call hn
        refine ox rfl rfl rfl rfl (ex_move rfl rfl) ?_
        refine ox rfl rfl rfl rfl (ex_extract rfl rfl rfl) ?_
        refine ox rfl rfl rfl rfl (ex_extract rfl rfl rfl) ?_
        refine ox rfl rfl rfl rfl (ex_assign rfl rfl) ?_
        refine ox rfl rfl rfl rfl (ex_assign rfl rfl) ?_
        refine ops_nil (at_then (run_seq ?_))
        refine run_seq ?_
        refine run_region rfl ?_
        refine ox rfl rfl rfl rfl (ex_move rfl rfl) ?_
        refine ox rfl rfl rfl rfl (ex_not rfl rfl) ?_
        refine ops_nil (at_then ?_)
        refine run_cond (b := !t4720.2) rfl (fun hb4724 => ?_) (fun hb4724 => ?_)
        · replace ho4718 := cond_t hb4724 ho4718
          refine run_seq ?_
          refine run_region rfl ?_
          refine ox rfl rfl rfl rfl (ex_assign rfl rfl) ?_
          refine ox rfl rfl rfl rfl (ex_assign rfl rfl) ?_
          refine ops_nil (at_then ?_)
          refine run_ret ?_
          refine at_then_ret ?_
          refine at_then_ret ?_
          replace HM := HM.empty kMember 38 none
          replace HM := (HM.front 1 rfl rfl).drop
          replace HM := (HM.front 1 rfl rfl).drop
          have hR := Option.some.inj ho4718
          subst hR
          have hT := thn_inl H
          have hR := Option.some.inj hT
          subst hR
          exact at_ret2 rfl rfl rfl ⟨_, rfl, _, rfl, HM⟩
        · replace ho4718 := cond_f hb4724 ho4718
          refine run_skip ?_
          refine at_then ?_
          obtain ⟨t4726, h4727, ho4718⟩ := bind_some ho4718
          refine run_region rfl ?_
          refine ox rfl rfl rfl rfl (ex_move rfl rfl) ?_
          refine ox rfl rfl rfl rfl (ex_move rfl rfl) ?_
          refine ox rfl rfl rfl rfl (ex_move rfl rfl) ?_
          refine ox rfl rfl rfl rfl (ex_add rfl rfl rfl) ?_
          obtain ⟨F4730, hF4731, hFn4732, hFl4733, HMh4734, hcl4735⟩ := HM.hide (Ms := [own kMember 38 u4681 t4679])
          refine od rfl rfl rfl rfl (does_callk rfl callok111 rfl (slices_Delete_impl_Member.calls (x0 := t4679) (x1 := t4720.1) (x2 := wrap64 (t4720.1 + 1)) (hide_olds _ _) hF4731 hFn4732 hFl4733 h4727)) ?_
          rintro u4728 w4736 ⟨_, rfl, hn⟩
          replace HM : Mem w [] w4736 [own kMember 38 u4728 t4726, box b4667 28 [.int .i64 x1.fKind, .int .i64 x1.fMember, p1_0, p1_1]] := hcl4735 _ _ hn
          refine ox rfl rfl rfl rfl (ex_assign rfl rfl) ?_
          refine ops_nil ?_
          replace HM := HM.front 1 rfl rfl
          exact at_mid (ρ' := [(2, .int .i64 x2), (4, .pointer (some ⟨b4667, 0, none⟩)), (8, u4728)]) ⟨_, _, (Option.some.inj ho4718), rfl, HM⟩ (Sub.cons rfl (Sub.cons rfl (Sub.cons rfl Sub.nil)))
      · replace ho4718 := cond_f hb4719 ho4718
        refine run_skip ?_
        replace HM := HM.front 1 rfl rfl
        exact at_mid (ρ' := [(2, .int .i64 x2), (4, .pointer (some ⟨b4667, 0, none⟩)), (8, u4681)]) ⟨_, _, (Option.some.inj ho4718), rfl, HM⟩ (Sub.cons rfl (Sub.cons rfl (Sub.cons rfl Sub.nil)))
    · rintro _ w4737 ⟨v4714, a4715, rfl, rfl, HM⟩
      replace H := (thn_inr H)
      refine run_seq ?_
      obtain ⟨t4738, h4739, H⟩ := bind_some H
      refine run_region rfl ?_
      refine ox rfl rfl rfl rfl (ex_move rfl rfl) ?_
      refine ox rfl rfl rfl rfl (ex_func rfl rfl) ?_
      replace HM := HM.front 1 rfl rfl
      obtain ⟨F4742, hF4743, hFn4744, hFl4745, HMh4746, hcl4747⟩ := HM.hide (Ms := [own kMember 38 v4714 a4715])
      refine od rfl rfl rfl rfl (does_callk rfl callok112 rfl (slices_DeleteFunc_impl_Member.calls (x0 := a4715) (x1_0 := x1) (hide_olds _ _) hF4743 hFn4744 hFl4745 (HMh4746.box_at 0 rfl) (HMh4746.rd hp1_0) (HMh4746.rd hp1_1) h4739)) ?_
      rintro u4740 w4748 ⟨_, rfl, hn⟩
      replace HM : Mem w [] w4748 [own kMember 38 u4740 t4738, box b4667 28 [.int .i64 x1.fKind, .int .i64 x1.fMember, p1_0, p1_1]] := hcl4747 _ _ hn
      refine ox rfl rfl rfl rfl (ex_assign rfl rfl) ?_
      refine ops_nil (at_then (run_seq ?_))
      refine run_seq ?_
      refine run_region rfl ?_
      refine ox rfl rfl rfl rfl (ex_fieldAddr (off' := 0) rfl rfl Try.underlying28 rfl tsz2 rfl) ?_
      refine ox rfl rfl rfl rfl (ex_load1 rfl rfl Try.underlying2 rfl ((HM.box_at 1 rfl) 0 _ rfl)) ?_
      refine ox rfl rfl rfl rfl (ex_neq rfl rfl rfl) ?_
      refine ops_nil (at_then ?_)
      refine run_cond (b := (x1.fKind != 1)) rfl (fun hb4750 => ?_) (fun hb4750 => ?_)
      · replace H := cond_t hb4750 H
        refine run_seq ?_
        refine run_region rfl ?_
        refine ox rfl rfl rfl rfl (ex_move rfl rfl) ?_
        refine ox rfl rfl rfl rfl (ex_assign rfl rfl) ?_
        refine ox rfl rfl rfl rfl (ex_assign rfl rfl) ?_
        refine ops_nil (at_then ?_)
        refine run_ret ?_
        refine at_then_ret ?_
        replace HM := (HM.front 1 rfl rfl).drop
        have hR := Option.some.inj H
        subst hR
        exact at_ret2 rfl rfl rfl ⟨_, rfl, _, rfl, HM⟩
      · replace H := cond_f hb4750 H
        refine run_skip ?_
        refine at_then ?_
        refine run_seq ?_
        refine run_region rfl ?_
        refine ox rfl rfl rfl rfl (ex_move rfl rfl) ?_
        refine ox rfl rfl rfl rfl (ex_build (cells := #[(.int .i64 x2), (.int .i64 0)]) rfl rfl (by kernel_rfl)) ?_
        refine od rfl rfl rfl rfl (does_alloc (cs := [.int .i64 0, .int .i64 0]) rfl tz36 rfl HM) ?_
        rintro _ w4754 ⟨b4751, rfl, HM⟩
        refine odS rfl rfl rfl (does_store (vs := [.int .i64 x2, .int .i64 0]) (cs' := [.int .i64 x2, .int .i64 0]) rfl rfl rfl rfl tsz36 (Ones.int (Ones.int Ones.nil)) rfl rfl HM) ?_
        rintro w4755 HM
        refine ops_nil (at_then (run_seq ?_))
        obtain ⟨t4756, h4757, H⟩ := bind_some H
        refine run_region rfl ?_
        refine ox rfl rfl rfl rfl (ex_move rfl rfl) ?_
        refine ox rfl rfl rfl rfl (ex_fieldAddr (off' := 1) rfl rfl Try.underlying28 rfl tsz2 rfl) ?_
        refine ox rfl rfl rfl rfl (ex_load1 rfl rfl Try.underlying2 rfl ((HM.box_at 2 rfl) 1 _ rfl)) ?_
        refine od rfl rfl rfl rfl (does_callk rfl callok60 rfl (impl_findMember.calls (x0 := t4738) (x1 := x1.fMember) (HM.own_rd 1 rfl) h4757)) ?_
        rintro _ w4758 ⟨rfl, hn⟩
        replace HM : Mem w [] w4758 [box b4751 36 [.int .i64 x2, .int .i64 0], own kMember 38 u4740 t4738, box b4667 28 [.int .i64 x1.fKind, .int .i64 x1.fMember, p1_0, p1_1]] := HM.call hn
        refine ox rfl rfl rfl rfl (ex_move rfl rfl) ?_
        refine ox rfl rfl rfl rfl (ex_extract rfl rfl rfl) ?_
        refine ox rfl rfl rfl rfl (ex_extract rfl rfl rfl) ?_
        refine ox rfl rfl rfl rfl (ex_assign rfl rfl) ?_
        refine ox rfl rfl rfl rfl (ex_assign rfl rfl) ?_
        refine ops_nil (at_then (run_seq ?_))
        refine run_block ?_
        refine run_seq ?_
        obtain ⟨t4763, h4764, H⟩ := bind_some H
        refine run_meet (fun ρ_ w_ => ρ_ = [(4, .pointer (some ⟨b4667, 0, none⟩)), (8, u4740), (11, .pointer (some ⟨b4751, 0, none⟩)), (12, .int .i64 t4756.1), (52, .bool (t4756.2 || t4763))] ∧ Mem w [] w_ [box b4667 28 [.int .i64 x1.fKind, .int .i64 x1.fMember, p1_0, p1_1], own kMember 38 u4740 t4738, box b4751 36 [.int .i64 x2, .int .i64 0]]) ?_ ?_
        · skip
          refine run_region rfl ?_
          refine ox rfl rfl rfl rfl (ex_move rfl rfl) ?_
          refine ox rfl rfl rfl rfl (ex_move rfl rfl) ?_
          refine bool_cases t4756.2 (fun hg4765 => ?_) (fun hg4765 => ?_)
          · skip
            refine ops_off rfl (guard_off rfl rfl rfl hg4765) rfl rfl ?_
            refine ops_off rfl (guard_off rfl rfl rfl hg4765) rfl rfl ?_
            refine ops_off rfl (guard_off rfl rfl rfl hg4765) rfl rfl ?_
            have hg4766 : (t4756.2 || t4763) = true := by simp only [hg4765, Bool.and_true, Bool.true_and, Bool.and_false, Bool.false_and, Bool.or_true, Bool.true_or, Bool.or_false, Bool.false_or, Bool.not_true, Bool.not_false, Bool.not_not]
            refine ops_ex (v := .bool (t4756.2 || t4763)) rfl (guard_none rfl) rfl rfl (ex_por_t rfl rfl hg4765) ?_
            refine ox rfl rfl rfl rfl (ex_assign rfl rfl) ?_
            refine ops_nil ?_
            replace HM := HM.front 1 rfl rfl
            replace HM := HM.front 2 rfl rfl
            exact at_meet [(4, .pointer (some ⟨b4667, 0, none⟩)), (8, u4740), (11, .pointer (some ⟨b4751, 0, none⟩)), (12, .int .i64 t4756.1), (52, .bool (t4756.2 || t4763))] ⟨rfl, HM⟩ (Sub.cons rfl (Sub.cons rfl (Sub.cons rfl (Sub.cons rfl (Sub.cons rfl Sub.nil)))))
          · skip
            refine ops_ex rfl (guard_on rfl rfl rfl hg4765) rfl rfl (ex_move rfl rfl) ?_
            refine ops_ex rfl (guard_on rfl rfl rfl hg4765) rfl rfl (ex_func rfl rfl) ?_
            refine ops_does rfl (guard_on rfl rfl rfl hg4765) rfl rfl (does_callk rfl callok64 rfl (slices_ContainsFunc_impl_Member_v2.calls (x0 := t4738) (x1_0 := (⟨x2, 0⟩ : Ref)) (HM.own_rd 1 rfl) (HM.box_at 0 rfl) (cond_t (not_mk hg4765) h4764))) ?_
            rintro _ w4767 ⟨rfl, hn⟩
            replace HM : Mem w [] w4767 [box b4751 36 [.int .i64 x2, .int .i64 0], own kMember 38 u4740 t4738, box b4667 28 [.int .i64 x1.fKind, .int .i64 x1.fMember, p1_0, p1_1]] := HM.call hn
            refine ops_ex (v := .bool (t4756.2 || t4763)) rfl (guard_none rfl) rfl rfl (ex_por_f rfl rfl hg4765 rfl) ?_
            refine ox rfl rfl rfl rfl (ex_assign rfl rfl) ?_
            refine ops_nil ?_
            replace HM := HM.front 1 rfl rfl
            replace HM := HM.front 2 rfl rfl
            exact at_meet [(4, .pointer (some ⟨b4667, 0, none⟩)), (8, u4740), (11, .pointer (some ⟨b4751, 0, none⟩)), (12, .int .i64 t4756.1), (52, .bool (t4756.2 || t4763))] ⟨rfl, HM⟩ (Sub.cons rfl (Sub.cons rfl (Sub.cons rfl (Sub.cons rfl (Sub.cons rfl Sub.nil)))))
        · rintro _ w4768 ⟨rfl, HM⟩
          refine at_then ?_
          refine run_cond (b := (t4756.2 || t4763)) rfl (fun hb4769 => ?_) (fun hb4769 => ?_)
          · replace H := cond_t hb4769 H
            refine run_seq ?_
            refine run_region rfl ?_
            refine ox rfl rfl rfl rfl (ex_assign rfl rfl) ?_
            refine ox rfl rfl rfl rfl (ex_assign rfl rfl) ?_
            refine ops_nil (at_then ?_)
            refine run_ret ?_
            refine at_block_ret ?_
            refine at_then_ret ?_
            replace HM := HM.empty kMember 38 none
            replace HM := (HM.front 1 rfl rfl).drop
            replace HM := (HM.front 1 rfl rfl).drop
            replace HM := (HM.front 1 rfl rfl).drop
            have hR := Option.some.inj H
            subst hR
            exact at_ret2 rfl rfl rfl ⟨_, rfl, _, rfl, HM⟩
          · replace H := cond_f hb4769 H
            refine run_seq ?_
            refine run_region rfl ?_
            refine ox rfl rfl rfl rfl (ex_move rfl rfl) ?_
            refine ox rfl rfl rfl rfl (ex_len (d := kMember) (xs := t4738) rfl rfl Try.underlying24 (HM.own_rd 1 rfl)) ?_
            refine ox rfl rfl rfl rfl (ex_eql rfl rfl rfl) ?_
            refine ox rfl rfl rfl rfl (ex_assign rfl rfl) ?_
            refine ops_nil (at_then ?_)
            refine run_cond (b := ((t4738.length : Int) == 8)) rfl (fun hb4771 => ?_) (fun hb4771 => ?_)
            · replace H := cond_t hb4771 H
              refine run_seq ?_
              refine run_region rfl ?_
              refine ox rfl rfl rfl rfl (ex_assign rfl rfl) ?_
              refine ox rfl rfl rfl rfl (ex_assign rfl rfl) ?_
              refine ops_nil (at_then ?_)
              refine run_ret ?_
              refine at_block_ret ?_
              refine at_then_ret ?_
              replace HM := HM.empty kMember 38 none
              replace HM := (HM.front 1 rfl rfl).drop
              replace HM := (HM.front 1 rfl rfl).drop
              replace HM := (HM.front 1 rfl rfl).drop
              have hR := Option.some.inj H
              subst hR
              exact at_ret2 rfl rfl rfl ⟨_, rfl, _, rfl, HM⟩
            · replace H := cond_f hb4771 H
              refine run_skip ?_
              refine at_block ?_
              refine at_then ?_
              refine run_seq ?_
              obtain ⟨t4776, h4777, H⟩ := bind_some H
              refine run_region rfl ?_
              refine ox rfl rfl rfl rfl (ex_move rfl rfl) ?_
              refine ox rfl rfl rfl rfl (ex_move rfl rfl) ?_
              refine ox rfl rfl rfl rfl (ex_fieldAddr (off' := 1) rfl rfl Try.underlying28 rfl tsz2 rfl) ?_
              refine ox rfl rfl rfl rfl (ex_load1 rfl rfl Try.underlying2 rfl ((HM.box_at 0 rfl) 1 _ rfl)) ?_
              refine ox rfl rfl rfl rfl (ex_loadN (cs := [(.int .i64 x2), (.int .i64 0)]) rfl rfl Try.underlying36 rfl tsz36 rfl ((HM.box_at 2 rfl).sub 0 2 rfl)) ?_
              refine ox rfl rfl rfl rfl (ex_build (cells := #[(.int .i64 x1.fMember), (.int .i64 x2), (.int .i64 0)]) rfl rfl (by kernel_rfl)) ?_
              refine od rfl rfl rfl rfl (does_lit (e := 38) (cs := [.int .i64 x1.fMember, .int .i64 x2, .int .i64 0]) (xs := ([(⟨x1.fMember, (⟨x2, 0⟩ : Ref)⟩ : Member)] : List Member)) kMember rfl rfl (fun _ => by kernel_rfl) rfl rfl (fun _ _ h => by have h' : _ = [] := h; subst h'; exact (Elems.cons (d := kMember) (x := (⟨x1.fMember, (⟨x2, 0⟩ : Ref)⟩ : Member)) (f := []) ⟨rfl, rfl⟩ .nil)) HM.emp) ?_
              rintro v4773 w4786 HM
              replace HM := HM.front 2 rfl rfl
              obtain ⟨F4780, hF4781, hFn4782, hFl4783, HMh4784, hcl4785⟩ := HM.hide (Ms := [own kMember 38 u4740 t4738, own kMember 38 v4773 ([(⟨x1.fMember, (⟨x2, 0⟩ : Ref)⟩ : Member)] : List Member)])
              refine od rfl rfl rfl rfl (does_callk rfl callok115 rfl (slices_Insert_Member.calls (x0 := t4738) (x1 := t4756.1) (x2 := ([(⟨x1.fMember, (⟨x2, 0⟩ : Ref)⟩ : Member)] : List Member)) (hide_olds _ _) hF4781 hFn4782 hFl4783 h4777)) ?_
              rintro u4778 w4787 ⟨_, rfl, hn⟩
              replace HM : Mem w [] w4787 [own kMember 38 u4778 t4776, box b4667 28 [.int .i64 x1.fKind, .int .i64 x1.fMember, p1_0, p1_1], box b4751 36 [.int .i64 x2, .int .i64 0]] := hcl4785 _ _ hn
              refine ox rfl rfl rfl rfl (ex_assign rfl rfl) ?_
              refine ox rfl rfl rfl rfl (ex_assign rfl rfl) ?_
              refine ops_nil (at_then ?_)
              refine run_ret ?_
              replace HM := (HM.front 1 rfl rfl).drop
              replace HM := (HM.front 1 rfl rfl).drop
              have hR := Option.some.inj H
              subst hR
              exact at_ret2 rfl rfl rfl ⟨_, rfl, _, rfl, HM⟩

def impl_TakeMembers.f (k : Nat) (x0 : List Member) (x1 : Tx) (x2 : Int) : Option MembersResult := ((impl_MembersFault.f k x0).bind fun t4803 => (bif (t4803 != 0) then some (⟨t4803, ([] : List Member)⟩ : MembersResult) else ((impl_TxFault.f k x1).bind fun t4812 => (bif (t4812 != 0) then some (⟨t4812, ([] : List Member)⟩ : MembersResult) else ((impl_takeMembers.f k x0 x1 x2).bind fun t4818 => some (⟨t4818.2, t4818.1⟩ : MembersResult))))))
theorem impl_TakeMembers.calls {k : Nat} {x0 : List Member} {x1 : Tx} {x2 : Int} {p0 : Value} {p1_0 : Value} {p1_1 : Value} {w : World} (hp0 : RdS kMember w p0 x0) (hp1_0 : RdS kRef w p1_0 x1.fIns) (hp1_1 : RdS kOut w p1_1 x1.fOuts) {r : MembersResult} (H : impl_TakeMembers.f k x0 x1 x2 = some r) :
    Calls Try.prog 9 ([p0, .agg #[(.int .i64 x1.fKind), (.int .i64 x1.fMember), p1_0, p1_1], .int .i64 x2] : List Value).toArray w (fun e w_ => ∃ v, e = .returned v ∧ ∃ u0 : Value, v = (.agg #[.int .i64 r.fCode, u0]) ∧ Mem w [] w_ [own kMember 38 u0 r.fMembers]) := by
  have HM := Mem.start w
  refine calls_run (N := 33) Try.func9 rfl rfl rfl rfl ?_
  unfold impl_TakeMembers.f at H
  refine run_seq ?_
  refine run_region rfl ?_
  refine od rfl rfl rfl rfl (does_box (cs := [.int .i64 x1.fKind, .int .i64 x1.fMember, p1_0, p1_1]) rfl rfl rfl HM) ?_
  rintro _ w4798 ⟨b4792, rfl, HM⟩
  refine od rfl rfl rfl rfl (does_alloc (cs := [.int .i64 0, .slice none 0 0]) rfl tz32 rfl HM) ?_
  rintro _ w4799 ⟨b4795, rfl, HM⟩
  refine ops_nil (at_then (run_seq ?_))
  refine run_seq ?_
  obtain ⟨t4803, h4804, H⟩ := bind_some H
  refine run_region rfl ?_
  refine ox rfl rfl rfl rfl (ex_move rfl rfl) ?_
  refine od rfl rfl rfl rfl (does_callk rfl callok13 rfl (impl_MembersFault.calls (x0 := x0) (HM.rd hp0) h4804)) ?_
  rintro _ w4805 ⟨rfl, hn⟩
  replace HM : Mem w [] w4805 [box b4795 32 [.int .i64 0, .slice none 0 0], box b4792 28 [.int .i64 x1.fKind, .int .i64 x1.fMember, p1_0, p1_1]] := HM.call hn
  refine ox rfl rfl rfl rfl (ex_assign rfl rfl) ?_
  refine ops_nil (at_then (run_seq ?_))
  refine run_region rfl ?_
  refine ox rfl rfl rfl rfl (ex_move rfl rfl) ?_
  refine ox rfl rfl rfl rfl (ex_neq rfl rfl rfl) ?_
  refine ops_nil (at_then ?_)
  refine run_cond (b := (t4803 != 0)) rfl (fun hb4806 => ?_) (fun hb4806 => ?_)
  · replace H := cond_t hb4806 H
    refine run_seq ?_
    refine run_region rfl ?_
    refine ox rfl rfl rfl rfl (ex_move rfl rfl) ?_
    refine ox rfl rfl rfl rfl (ex_build (cells := #[(.int .i64 t4803), (.slice none 0 0)]) rfl rfl (by kernel_rfl)) ?_
    refine odS rfl rfl rfl (does_store (vs := [.int .i64 t4803, .slice none 0 0]) (cs' := [.int .i64 t4803, .slice none 0 0]) rfl rfl rfl rfl tsz32 (Ones.int (Ones.sl Ones.nil)) rfl rfl HM) ?_
    rintro w4807 HM
    refine ops_nil (at_then ?_)
    refine run_ret ?_
    refine at_then_ret ?_
    replace HM := HM.empty kMember 38 none
    replace HM := (HM.front 2 rfl rfl).drop
    replace HM := HM.front 1 rfl rfl
    have hcb0 := HM.box_at 0 rfl
    replace HM := (HM.front 0 rfl rfl).drop
    have hR := Option.some.inj H
    subst hR
    exact at_retN rfl rfl Try.underlying32 rfl tsz32 rfl hcb0 ⟨_, rfl, _, rfl, HM⟩
  · replace H := cond_f hb4806 H
    refine run_skip ?_
    refine at_then ?_
    refine run_seq ?_
    refine run_seq ?_
    obtain ⟨t4812, h4813, H⟩ := bind_some H
    refine run_region rfl ?_
    refine ox rfl rfl rfl rfl (ex_loadN (cs := [(.int .i64 x1.fKind), (.int .i64 x1.fMember), p1_0, p1_1]) rfl rfl Try.underlying28 rfl tsz28 rfl ((HM.box_at 1 rfl).sub 0 4 rfl)) ?_
    refine od rfl rfl rfl rfl (does_callk rfl callok54 rfl (impl_TxFault.calls (x0 := x1) (HM.rd hp1_0) (HM.rd hp1_1) h4813)) ?_
    rintro _ w4814 ⟨rfl, hn⟩
    replace HM : Mem w [] w4814 [box b4795 32 [.int .i64 0, .slice none 0 0], box b4792 28 [.int .i64 x1.fKind, .int .i64 x1.fMember, p1_0, p1_1]] := HM.call hn
    refine ox rfl rfl rfl rfl (ex_assign rfl rfl) ?_
    refine ops_nil (at_then (run_seq ?_))
    refine run_region rfl ?_
    refine ox rfl rfl rfl rfl (ex_move rfl rfl) ?_
    refine ox rfl rfl rfl rfl (ex_neq rfl rfl rfl) ?_
    refine ops_nil (at_then ?_)
    refine run_cond (b := (t4812 != 0)) rfl (fun hb4815 => ?_) (fun hb4815 => ?_)
    · replace H := cond_t hb4815 H
      refine run_seq ?_
      refine run_region rfl ?_
      refine ox rfl rfl rfl rfl (ex_move rfl rfl) ?_
      refine ox rfl rfl rfl rfl (ex_build (cells := #[(.int .i64 t4812), (.slice none 0 0)]) rfl rfl (by kernel_rfl)) ?_
      refine odS rfl rfl rfl (does_store (vs := [.int .i64 t4812, .slice none 0 0]) (cs' := [.int .i64 t4812, .slice none 0 0]) rfl rfl rfl rfl tsz32 (Ones.int (Ones.sl Ones.nil)) rfl rfl HM) ?_
      rintro w4816 HM
      refine ops_nil (at_then ?_)
      refine run_ret ?_
      refine at_then_ret ?_
      replace HM := HM.empty kMember 38 none
      replace HM := (HM.front 2 rfl rfl).drop
      replace HM := HM.front 1 rfl rfl
      have hcb0 := HM.box_at 0 rfl
      replace HM := (HM.front 0 rfl rfl).drop
      have hR := Option.some.inj H
      subst hR
      exact at_retN rfl rfl Try.underlying32 rfl tsz32 rfl hcb0 ⟨_, rfl, _, rfl, HM⟩
    · replace H := cond_f hb4815 H
      refine run_skip ?_
      refine at_then ?_
      refine run_seq ?_
      obtain ⟨t4818, h4819, H⟩ := bind_some H
      refine run_region rfl ?_
      refine ox rfl rfl rfl rfl (ex_move rfl rfl) ?_
      refine ox rfl rfl rfl rfl (ex_loadN (cs := [(.int .i64 x1.fKind), (.int .i64 x1.fMember), p1_0, p1_1]) rfl rfl Try.underlying28 rfl tsz28 rfl ((HM.box_at 1 rfl).sub 0 4 rfl)) ?_
      refine ox rfl rfl rfl rfl (ex_move rfl rfl) ?_
      refine od rfl rfl rfl rfl (does_callk rfl callok55 rfl (impl_takeMembers.calls (x0 := x0) (x1 := x1) (x2 := x2) (HM.rd hp0) (HM.rd hp1_0) (HM.rd hp1_1) h4819)) ?_
      rintro _ w4822 ⟨u4820, rfl, hn⟩
      replace HM : Mem w [] w4822 [own kMember 38 u4820 t4818.1, box b4795 32 [.int .i64 0, .slice none 0 0], box b4792 28 [.int .i64 x1.fKind, .int .i64 x1.fMember, p1_0, p1_1]] := HM.call hn
      refine ox rfl rfl rfl rfl (ex_move rfl rfl) ?_
      refine ox rfl rfl rfl rfl (ex_extract rfl rfl rfl) ?_
      refine ox rfl rfl rfl rfl (ex_extract rfl rfl rfl) ?_
      refine ox rfl rfl rfl rfl (ex_assign rfl rfl) ?_
      refine ox rfl rfl rfl rfl (ex_assign rfl rfl) ?_
      refine ops_nil (at_then (run_seq ?_))
      refine run_region rfl ?_
      refine ox rfl rfl rfl rfl (ex_move rfl rfl) ?_
      refine ox rfl rfl rfl rfl (ex_move rfl rfl) ?_
      refine ox rfl rfl rfl rfl (ex_build1 (fun u4820 => [(0, .int .i64 t4818.2), (1, u4820)]) (fun u4820 => #[.int .i64 t4818.2, u4820]) rfl rfl (fun _ _ _ => by kernel_rfl) (HM.own_rd 0 rfl).isSl) ?_
      replace HM := HM.front 1 rfl rfl
      refine odS rfl rfl rfl (does_store (vs := [.int .i64 t4818.2, u4820]) (cs' := [.int .i64 t4818.2, u4820]) rfl rfl rfl rfl tsz32 (Ones.int (Ones.rd (HM.own_rd 1 rfl) Ones.nil)) rfl rfl HM) ?_
      rintro w4823 HM
      refine ops_nil (at_then ?_)
      refine run_ret ?_
      replace HM := (HM.front 2 rfl rfl).drop
      have hcb0 := HM.box_at 0 rfl
      replace HM := (HM.front 0 rfl rfl).drop
      have hR := Option.some.inj H
      subst hR
      exact at_retN rfl rfl Try.underlying32 rfl tsz32 rfl hcb0 ⟨_, rfl, _, rfl, HM⟩

def spec_l1In.f (k : Nat) (x0 : Int) (x1 : Int) (x2 : Int) : Option Bool := some ((decide (x1 ≤ x0)) && (decide (x0 ≤ x2)))
theorem spec_l1In.calls {k : Nat} {x0 : Int} {x1 : Int} {x2 : Int}  {w : World}  {r : Bool} (H : spec_l1In.f k x0 x1 x2 = some r) :
    Calls Try.prog 58 ([.int .i64 x0, .int .i64 x1, .int .i64 x2] : List Value).toArray w (fun e w_ => ∃ v, e = .returned v ∧ v = (.bool r) ∧ Mem w [] w_ []) := by
  have HM := Mem.start w
  refine calls_run (N := 15) Try.func58 rfl rfl rfl rfl ?_
  unfold spec_l1In.f at H
  refine run_seq ?_
  refine run_region rfl ?_
  refine ox rfl rfl rfl rfl (ex_assign rfl rfl) ?_
  refine ops_nil (at_then (run_seq ?_))
  refine run_meet (fun ρ_ w_ => ρ_ = [(6, .bool ((decide (x1 ≤ x0)) && (decide (x0 ≤ x2))))] ∧ Mem w [] w_ []) ?_ ?_
  · skip
    refine run_region rfl ?_
    refine ox rfl rfl rfl rfl (ex_move rfl rfl) ?_
    refine ox rfl rfl rfl rfl (ex_move rfl rfl) ?_
    refine ox rfl rfl rfl rfl (ex_geq rfl rfl rfl) ?_
    refine ox rfl rfl rfl rfl (ex_move rfl rfl) ?_
    refine bool_cases (decide (x1 ≤ x0)) (fun hg4843 => ?_) (fun hg4843 => ?_)
    · skip
      refine ops_ex rfl (guard_on rfl rfl rfl hg4843) rfl rfl (ex_move rfl rfl) ?_
      refine ops_ex rfl (guard_on rfl rfl rfl hg4843) rfl rfl (ex_move rfl rfl) ?_
      refine ops_ex rfl (guard_on rfl rfl rfl hg4843) rfl rfl (ex_leq rfl rfl rfl) ?_
      refine ops_ex (v := .bool ((decide (x1 ≤ x0)) && (decide (x0 ≤ x2)))) rfl (guard_none rfl) rfl rfl (ex_pand_t rfl rfl hg4843 rfl) ?_
      refine ox rfl rfl rfl rfl (ex_assign rfl rfl) ?_
      refine ops_nil ?_
      exact at_meet [(6, .bool ((decide (x1 ≤ x0)) && (decide (x0 ≤ x2))))] ⟨rfl, HM⟩ (Sub.cons rfl Sub.nil)
    · skip
      refine ops_off rfl (guard_off rfl rfl rfl hg4843) rfl rfl ?_
      refine ops_off rfl (guard_off rfl rfl rfl hg4843) rfl rfl ?_
      refine ops_off rfl (guard_off rfl rfl rfl hg4843) rfl rfl ?_
      have hg4844 : ((decide (x1 ≤ x0)) && (decide (x0 ≤ x2))) = false := by simp only [hg4843, Bool.and_true, Bool.true_and, Bool.and_false, Bool.false_and, Bool.or_true, Bool.true_or, Bool.or_false, Bool.false_or, Bool.not_true, Bool.not_false, Bool.not_not]
      refine ops_ex (v := .bool ((decide (x1 ≤ x0)) && (decide (x0 ≤ x2)))) rfl (guard_none rfl) rfl rfl (ex_pand_f rfl rfl hg4843) ?_
      refine ox rfl rfl rfl rfl (ex_assign rfl rfl) ?_
      refine ops_nil ?_
      exact at_meet [(6, .bool ((decide (x1 ≤ x0)) && (decide (x0 ≤ x2))))] ⟨rfl, HM⟩ (Sub.cons rfl Sub.nil)
  · rintro _ w4845 ⟨rfl, HM⟩
    refine at_then ?_
    refine run_ret ?_
    have hR := Option.some.inj H
    subst hR
    exact at_ret1 rfl rfl ⟨_, rfl, rfl, HM⟩

def spec_l1Key.f (k : Nat) (x0 : Int) : Option Bool := ((spec_l1In.f k x0 1 999).bind fun t4848 => some t4848)
theorem spec_l1Key.calls {k : Nat} {x0 : Int}  {w : World}  {r : Bool} (H : spec_l1Key.f k x0 = some r) :
    Calls Try.prog 116 ([.int .i64 x0] : List Value).toArray w (fun e w_ => ∃ v, e = .returned v ∧ v = (.bool r) ∧ Mem w [] w_ []) := by
  have HM := Mem.start w
  refine calls_run (N := 5) Try.func116 rfl rfl rfl rfl ?_
  unfold spec_l1Key.f at H
  refine run_seq ?_
  refine run_region rfl ?_
  refine ox rfl rfl rfl rfl (ex_assign rfl rfl) ?_
  refine ops_nil (at_then (run_seq ?_))
  obtain ⟨t4848, h4849, H⟩ := bind_some H
  refine run_region rfl ?_
  refine ox rfl rfl rfl rfl (ex_move rfl rfl) ?_
  refine od rfl rfl rfl rfl (does_callk rfl callok58 rfl (spec_l1In.calls (x0 := x0) (x1 := 1) (x2 := 999) h4849)) ?_
  rintro _ w4850 ⟨rfl, hn⟩
  replace HM : Mem w [] w4850 [] := HM.call hn
  refine ox rfl rfl rfl rfl (ex_assign rfl rfl) ?_
  refine ops_nil (at_then ?_)
  refine run_ret ?_
  have hR := Option.some.inj H
  subst hR
  exact at_ret1 rfl rfl ⟨_, rfl, rfl, HM⟩

def spec_l3Ref.f (k : Nat) (x0 : Ref) : Option Bool := ((spec_l1In.f k x0.fTx 1 60).bind fun t4866 => ((bif t4866 then spec_l1In.f k x0.fAt 0 3 else some default).bind fun t4868 => some (t4866 && t4868)))
theorem spec_l3Ref.calls {k : Nat} {x0 : Ref}  {w : World}  {r : Bool} (H : spec_l3Ref.f k x0 = some r) :
    Calls Try.prog 117 ([.agg #[(.int .i64 x0.fTx), (.int .i64 x0.fAt)]] : List Value).toArray w (fun e w_ => ∃ v, e = .returned v ∧ v = (.bool r) ∧ Mem w [] w_ []) := by
  have HM := Mem.start w
  refine calls_run (N := 11) Try.func117 rfl rfl rfl rfl ?_
  unfold spec_l3Ref.f at H
  refine run_seq ?_
  refine run_region rfl ?_
  refine od rfl rfl rfl rfl (does_box (cs := [.int .i64 x0.fTx, .int .i64 x0.fAt]) rfl rfl rfl HM) ?_
  rintro _ w4865 ⟨b4862, rfl, HM⟩
  refine ox rfl rfl rfl rfl (ex_assign rfl rfl) ?_
  refine ops_nil (at_then (run_seq ?_))
  obtain ⟨t4866, h4867, H⟩ := bind_some H
  obtain ⟨t4868, h4869, H⟩ := bind_some H
  refine run_meet (fun ρ_ w_ => ρ_ = [(2, .bool (t4866 && t4868))] ∧ Mem w [] w_ []) ?_ ?_
  · skip
    refine run_region rfl ?_
    refine ox rfl rfl rfl rfl (ex_fieldAddr (off' := 0) rfl rfl Try.underlying36 rfl tsz2 rfl) ?_
    refine ox rfl rfl rfl rfl (ex_load1 rfl rfl Try.underlying2 rfl ((HM.box_at 0 rfl) 0 _ rfl)) ?_
    refine od rfl rfl rfl rfl (does_callk rfl callok58 rfl (spec_l1In.calls (x0 := x0.fTx) (x1 := 1) (x2 := 60) h4867)) ?_
    rintro _ w4870 ⟨rfl, hn⟩
    replace HM : Mem w [] w4870 [box b4862 36 [.int .i64 x0.fTx, .int .i64 x0.fAt]] := HM.call hn
    refine ox rfl rfl rfl rfl (ex_move rfl rfl) ?_
    refine bool_cases t4866 (fun hg4871 => ?_) (fun hg4871 => ?_)
    · skip
      refine ops_ex rfl (guard_on rfl rfl rfl hg4871) rfl rfl (ex_fieldAddr (off' := 1) rfl rfl Try.underlying36 rfl tsz2 rfl) ?_
      refine ops_ex rfl (guard_on rfl rfl rfl hg4871) rfl rfl (ex_load1 rfl rfl Try.underlying2 rfl ((HM.box_at 0 rfl) 1 _ rfl)) ?_
      refine ops_does rfl (guard_on rfl rfl rfl hg4871) rfl rfl (does_callk rfl callok58 rfl (spec_l1In.calls (x0 := x0.fAt) (x1 := 0) (x2 := 3) (cond_t hg4871 h4869))) ?_
      rintro _ w4872 ⟨rfl, hn⟩
      replace HM : Mem w [] w4872 [box b4862 36 [.int .i64 x0.fTx, .int .i64 x0.fAt]] := HM.call hn
      refine ops_ex (v := .bool (t4866 && t4868)) rfl (guard_none rfl) rfl rfl (ex_pand_t rfl rfl hg4871 rfl) ?_
      refine ox rfl rfl rfl rfl (ex_assign rfl rfl) ?_
      refine ops_nil ?_
      replace HM := (HM.front 0 rfl rfl).drop
      exact at_meet [(2, .bool (t4866 && t4868))] ⟨rfl, HM⟩ (Sub.cons rfl Sub.nil)
    · skip
      refine ops_off rfl (guard_off rfl rfl rfl hg4871) rfl rfl ?_
      refine ops_off rfl (guard_off rfl rfl rfl hg4871) rfl rfl ?_
      refine ops_off rfl (guard_off rfl rfl rfl hg4871) rfl rfl ?_
      have hg4873 : (t4866 && t4868) = false := by simp only [hg4871, Bool.and_true, Bool.true_and, Bool.and_false, Bool.false_and, Bool.or_true, Bool.true_or, Bool.or_false, Bool.false_or, Bool.not_true, Bool.not_false, Bool.not_not]
      refine ops_ex (v := .bool (t4866 && t4868)) rfl (guard_none rfl) rfl rfl (ex_pand_f rfl rfl hg4871) ?_
      refine ox rfl rfl rfl rfl (ex_assign rfl rfl) ?_
      refine ops_nil ?_
      replace HM := (HM.front 0 rfl rfl).drop
      exact at_meet [(2, .bool (t4866 && t4868))] ⟨rfl, HM⟩ (Sub.cons rfl Sub.nil)
  · rintro _ w4874 ⟨rfl, HM⟩
    refine at_then ?_
    refine run_ret ?_
    have hR := Option.some.inj H
    subst hR
    exact at_ret1 rfl rfl ⟨_, rfl, rfl, HM⟩

def spec_l6Fault.l0 (x0 : List Member) : Nat → Int → Option (Int ⊕ Unit)
  | 0, _ => none
  | k + 1, a5113 => (bif (decide (a5113 < (x0.length : Int))) then (chk (idxOk a5113 x0.length) ((spec_l1Key.f k ((gt x0 a5113).fKey)).bind fun t5152 => (chk (!(!(!t5152)) || (idxOk a5113 x0.length)) ((bif (!(!t5152)) then spec_l3Ref.f k ((gt x0 a5113).fRef) else some default).bind fun t5156 => (bif ((!t5152) || (!t5156)) then some (.inl 3) else (chk (!(decide (0 < a5113)) || (idxOk a5113 x0.length)) (chk (!(decide (0 < a5113)) || (idxOk (wrap64 (a5113 - 1)) x0.length)) (bif ((decide (0 < a5113)) && (decide (((gt x0 a5113).fKey) ≤ ((gt x0 (wrap64 (a5113 - 1))).fKey)))) then some (.inl 1) else spec_l6Fault.l0 x0 k (wrap64 (a5113 + 1)))))))))) else some (.inr ()))
theorem spec_l6Fault.l0_z (x0 : List Member) (a5113 : Int) : spec_l6Fault.l0 x0 0 a5113 = none := rfl
theorem spec_l6Fault.l0_s (x0 : List Member) (k : Nat) (a5113 : Int) : spec_l6Fault.l0 x0 (k + 1) a5113 = (bif (decide (a5113 < (x0.length : Int))) then (chk (idxOk a5113 x0.length) ((spec_l1Key.f k ((gt x0 a5113).fKey)).bind fun t5152 => (chk (!(!(!t5152)) || (idxOk a5113 x0.length)) ((bif (!(!t5152)) then spec_l3Ref.f k ((gt x0 a5113).fRef) else some default).bind fun t5156 => (bif ((!t5152) || (!t5156)) then some (.inl 3) else (chk (!(decide (0 < a5113)) || (idxOk a5113 x0.length)) (chk (!(decide (0 < a5113)) || (idxOk (wrap64 (a5113 - 1)) x0.length)) (bif ((decide (0 < a5113)) && (decide (((gt x0 a5113).fKey) ≤ ((gt x0 (wrap64 (a5113 - 1))).fKey)))) then some (.inl 1) else spec_l6Fault.l0 x0 k (wrap64 (a5113 + 1)))))))))) else some (.inr ())) := rfl
def spec_l6Fault.l2 (x0 : List Member) (a5264 : Int) : Nat → Int → Option (Int ⊕ Unit)
  | 0, _ => none
  | k + 1, a5317 => (bif (decide (a5317 < a5264)) then (chk (idxOk a5317 x0.length) (chk (idxOk a5264 x0.length) (bif ((((gt x0 a5317).fRef.fTx) == ((gt x0 a5264).fRef.fTx)) && (((gt x0 a5317).fRef.fAt) == ((gt x0 a5264).fRef.fAt))) then some (.inl 7) else spec_l6Fault.l2 x0 a5264 k (wrap64 (a5317 + 1))))) else some (.inr ()))
theorem spec_l6Fault.l2_z (x0 : List Member) (a5264 : Int) (a5317 : Int) : spec_l6Fault.l2 x0 a5264 0 a5317 = none := rfl
theorem spec_l6Fault.l2_s (x0 : List Member) (a5264 : Int) (k : Nat) (a5317 : Int) : spec_l6Fault.l2 x0 a5264 (k + 1) a5317 = (bif (decide (a5317 < a5264)) then (chk (idxOk a5317 x0.length) (chk (idxOk a5264 x0.length) (bif ((((gt x0 a5317).fRef.fTx) == ((gt x0 a5264).fRef.fTx)) && (((gt x0 a5317).fRef.fAt) == ((gt x0 a5264).fRef.fAt))) then some (.inl 7) else spec_l6Fault.l2 x0 a5264 k (wrap64 (a5317 + 1))))) else some (.inr ())) := rfl
def spec_l6Fault.l1 (x0 : List Member) : Nat → Int → Option (Int ⊕ Unit)
  | 0, _ => none
  | k + 1, a5264 => (bif (decide (a5264 < (x0.length : Int))) then ((spec_l6Fault.l2 x0 a5264 k 0).bind fun o5309 => thn o5309 (fun r => some (.inl r)) (fun _ => spec_l6Fault.l1 x0 k (wrap64 (a5264 + 1)))) else some (.inr ()))
theorem spec_l6Fault.l1_z (x0 : List Member) (a5264 : Int) : spec_l6Fault.l1 x0 0 a5264 = none := rfl
theorem spec_l6Fault.l1_s (x0 : List Member) (k : Nat) (a5264 : Int) : spec_l6Fault.l1 x0 (k + 1) a5264 = (bif (decide (a5264 < (x0.length : Int))) then ((spec_l6Fault.l2 x0 a5264 k 0).bind fun o5309 => thn o5309 (fun r => some (.inl r)) (fun _ => spec_l6Fault.l1 x0 k (wrap64 (a5264 + 1)))) else some (.inr ())) := rfl
def spec_l6Fault.f (k : Nat) (x0 : List Member) : Option Int := (bif (decide (8 < (x0.length : Int))) then some 2 else ((spec_l6Fault.l0 x0 k 0).bind fun o5087 => thn o5087 (fun r => some r) (fun _ => ((spec_l6Fault.l1 x0 k 0).bind fun o5240 => thn o5240 (fun r => some r) (fun _ => some 0)))))
theorem spec_l6Fault.calls {k : Nat} {x0 : List Member} {p0 : Value} {w : World} (hp0 : RdS kMember w p0 x0) {r : Int} (H : spec_l6Fault.f k x0 = some r) :
    Calls Try.prog 56 ([p0] : List Value).toArray w (fun e w_ => ∃ v, e = .returned v ∧ v = (.int .i64 r) ∧ Mem w [] w_ []) := by
  have HM := Mem.start w
  refine calls_run (N := 69) Try.func56 rfl rfl rfl rfl ?_
  unfold spec_l6Fault.f at H
  refine run_seq ?_
  refine run_region rfl ?_
  refine ox rfl rfl rfl rfl (ex_assign rfl rfl) ?_
  refine ops_nil (at_then (run_seq ?_))
  refine run_seq ?_
  refine run_region rfl ?_
  refine ox rfl rfl rfl rfl (ex_move rfl rfl) ?_
  refine ox rfl rfl rfl rfl (ex_len (d := kMember) (xs := x0) rfl rfl Try.underlying24 hp0) ?_
  refine ox rfl rfl rfl rfl (ex_gtr rfl rfl rfl) ?_
  refine ops_nil (at_then ?_)
  refine run_cond (b := (decide (8 < (x0.length : Int)))) rfl (fun hb5013 => ?_) (fun hb5013 => ?_)
  · replace H := cond_t hb5013 H
    refine run_seq ?_
    refine run_region rfl ?_
    refine ox rfl rfl rfl rfl (ex_assign rfl rfl) ?_
    refine ops_nil (at_then ?_)
    refine run_ret ?_
    refine at_then_ret ?_
    have hR := Option.some.inj H
    subst hR
    exact at_ret1 rfl rfl ⟨_, rfl, rfl, HM⟩
  · replace H := cond_f hb5013 H
    refine run_skip ?_
    refine at_then ?_
    obtain ⟨o5087, ho5088, H⟩ := bind_some H
    refine run_mid (fun ρ_ w_ => Sum.inr () = o5087 ∧ ρ_ = [(0, p0)] ∧ Mem w [] w_ []) ?_ ?_
    · skip
      refine run_seq ?_
      refine run_region rfl ?_
      refine ox rfl rfl rfl rfl (ex_assign rfl rfl) ?_
      refine ops_nil (at_then ?_)
      refine run_block ?_
      refine run_loop (fun k_ ρ_ w_ => ∃ a5113 : Int, spec_l6Fault.l0 x0 k_ a5113 = some o5087 ∧ ρ_ = [(0, p0), (3, .int .i64 a5113)] ∧ Mem w [] w_ []) k (ρ1 := [(0, p0), (3, .int .i64 0)]) ⟨_, ho5088, rfl, HM⟩ (Sub.cons rfl (Sub.cons rfl Sub.nil)) ?_
      clear HM ho5088
      rintro k5138 _ w5139 ⟨a5113, ho5088, rfl, HM⟩
      obtain _ | k5138 := k5138
      · exact nomatch ((spec_l6Fault.l0_z x0 a5113).symm.trans ho5088)
      replace ho5088 := (spec_l6Fault.l0_s x0 k5138 a5113).symm.trans ho5088
      refine run_seq ?_
      refine run_seq ?_
      refine run_region rfl ?_
      refine ox rfl rfl rfl rfl (ex_move rfl rfl) ?_
      refine ox rfl rfl rfl rfl (ex_move rfl rfl) ?_
      refine ox rfl rfl rfl rfl (ex_len (d := kMember) (xs := x0) rfl rfl Try.underlying24 hp0) ?_
      refine ox rfl rfl rfl rfl (ex_lss rfl rfl rfl) ?_
      refine ops_nil (at_then ?_)
      refine run_cond (b := (decide (a5113 < (x0.length : Int)))) rfl (fun hb5140 => ?_) (fun hb5140 => ?_)
      · replace ho5088 := cond_t hb5140 ho5088
        refine run_skip ?_
        refine at_then ?_
        refine run_seq ?_
        refine run_block ?_
        refine run_seq ?_
        refine run_seq ?_
        obtain ⟨e5150, ho5088⟩ := chk_some ho5088
        obtain ⟨t5152, h5153, ho5088⟩ := bind_some ho5088
        obtain ⟨e5154, ho5088⟩ := chk_some ho5088
        obtain ⟨t5156, h5157, ho5088⟩ := bind_some ho5088
        refine run_meet (fun ρ_ w_ => ρ_ = [(0, p0), (3, .int .i64 a5113), (30, .bool ((!t5152) || (!t5156)))] ∧ Mem w [] w_ []) ?_ ?_
        · skip
          refine run_region rfl ?_
          refine ox rfl rfl rfl rfl (ex_move rfl rfl) ?_
          refine ox rfl rfl rfl rfl (ex_move rfl rfl) ?_
          have hc5151 : CellsAt _ (sb p0) (so p0 + (a5113).toNat * 3) [(.int .i64 ((gt x0 a5113).fKey)), (.int .i64 ((gt x0 a5113).fRef.fTx)), (.int .i64 ((gt x0 a5113).fRef.fAt))] := rd_plain hp0 e5150
          refine ox rfl rfl rfl rfl (ex_indexAddr (d := kMember) rfl rfl rfl Try.underlying24 tsz38 hp0 (idx_lo e5150) (idx_hi e5150)) ?_
          refine ox rfl rfl rfl rfl (ex_fieldAddr (off' := so p0 + (a5113).toNat * 3) rfl rfl Try.underlying38 rfl tsz2 rfl) ?_
          refine ox rfl rfl rfl rfl (ex_load1 rfl rfl Try.underlying2 rfl ((HM.at_ hc5151) 0 _ rfl)) ?_
          refine od rfl rfl rfl rfl (does_callk rfl callok116 rfl (spec_l1Key.calls (x0 := (gt x0 a5113).fKey) h5153)) ?_
          rintro _ w5158 ⟨rfl, hn⟩
          replace HM : Mem w [] w5158 [] := HM.call hn
          refine ox rfl rfl rfl rfl (ex_not rfl rfl) ?_
          refine ox rfl rfl rfl rfl (ex_move rfl rfl) ?_
          refine bool_cases (!t5152) (fun hg5159 => ?_) (fun hg5159 => ?_)
          · skip
            refine ops_off rfl (guard_off rfl rfl rfl hg5159) rfl rfl ?_
            refine ops_off rfl (guard_off rfl rfl rfl hg5159) rfl rfl ?_
            refine ops_off rfl (guard_off rfl rfl rfl hg5159) rfl rfl ?_
            refine ops_off rfl (guard_off rfl rfl rfl hg5159) rfl rfl ?_
            refine ops_off rfl (guard_off rfl rfl rfl hg5159) rfl rfl ?_
            refine ops_off rfl (guard_off rfl rfl rfl hg5159) rfl rfl ?_
            refine ops_off rfl (guard_off rfl rfl rfl hg5159) rfl rfl ?_
            have hg5160 : ((!t5152) || (!t5156)) = true := by simp only [hg5159, Bool.and_true, Bool.true_and, Bool.and_false, Bool.false_and, Bool.or_true, Bool.true_or, Bool.or_false, Bool.false_or, Bool.not_true, Bool.not_false, Bool.not_not]
            refine ops_ex (v := .bool ((!t5152) || (!t5156))) rfl (guard_none rfl) rfl rfl (ex_por_t rfl rfl hg5159) ?_
            refine ops_nil ?_
            exact at_meet [(0, p0), (3, .int .i64 a5113), (30, .bool ((!t5152) || (!t5156)))] ⟨rfl, HM⟩ (Sub.cons rfl (Sub.cons rfl (Sub.cons rfl Sub.nil)))
          · skip
            refine ops_ex rfl (guard_on rfl rfl rfl hg5159) rfl rfl (ex_move rfl rfl) ?_
            refine ops_ex rfl (guard_on rfl rfl rfl hg5159) rfl rfl (ex_move rfl rfl) ?_
            have hc5155 : CellsAt _ (sb p0) (so p0 + (a5113).toNat * 3) [(.int .i64 ((gt x0 a5113).fKey)), (.int .i64 ((gt x0 a5113).fRef.fTx)), (.int .i64 ((gt x0 a5113).fRef.fAt))] := rd_plain hp0 (or_t e5154 (not_mk hg5159))
            refine ops_ex rfl (guard_on rfl rfl rfl hg5159) rfl rfl (ex_indexAddr (d := kMember) rfl rfl rfl Try.underlying24 tsz38 hp0 (idx_lo (or_t e5154 (not_mk hg5159))) (idx_hi (or_t e5154 (not_mk hg5159)))) ?_
            refine ops_ex rfl (guard_on rfl rfl rfl hg5159) rfl rfl (ex_fieldAddr (off' := so p0 + (a5113).toNat * 3 + 1) rfl rfl Try.underlying38 rfl tsz36 rfl) ?_
            refine ops_ex rfl (guard_on rfl rfl rfl hg5159) rfl rfl (ex_loadN (cs := [(.int .i64 ((gt x0 a5113).fRef.fTx)), (.int .i64 ((gt x0 a5113).fRef.fAt))]) rfl rfl Try.underlying36 rfl tsz36 rfl ((HM.at_ hc5155).sub 1 2 rfl)) ?_
            refine ops_does rfl (guard_on rfl rfl rfl hg5159) rfl rfl (does_callk rfl callok117 rfl (spec_l3Ref.calls (x0 := (gt x0 a5113).fRef) (cond_t (not_mk hg5159) h5157))) ?_
            rintro _ w5161 ⟨rfl, hn⟩
            replace HM : Mem w [] w5161 [] := HM.call hn
            refine ops_ex rfl (guard_on rfl rfl rfl hg5159) rfl rfl (ex_not rfl rfl) ?_
            refine ops_ex (v := .bool ((!t5152) || (!t5156))) rfl (guard_none rfl) rfl rfl (ex_por_f rfl rfl hg5159 rfl) ?_
            refine ops_nil ?_
            exact at_meet [(0, p0), (3, .int .i64 a5113), (30, .bool ((!t5152) || (!t5156)))] ⟨rfl, HM⟩ (Sub.cons rfl (Sub.cons rfl (Sub.cons rfl Sub.nil)))
        · rintro _ w5162 ⟨rfl, HM⟩
          refine at_then ?_
          refine run_cond (b := ((!t5152) || (!t5156))) rfl (fun hb5163 => ?_) (fun hb5163 => ?_)
          · replace ho5088 := cond_t hb5163 ho5088
            refine run_seq ?_
            refine run_region rfl ?_
            refine ox rfl rfl rfl rfl (ex_assign rfl rfl) ?_
            refine ops_nil (at_then ?_)
            refine run_ret ?_
            refine at_then_ret ?_
            refine at_block_ret ?_
            refine at_then_ret ?_
            refine at_then_ret ?_
            refine at_block_ret ?_
            refine at_then_ret ?_
            have hR := Option.some.inj ho5088
            subst hR
            have hT := thn_inl H
            have hR := Option.some.inj hT
            subst hR
            exact at_ret1 rfl rfl ⟨_, rfl, rfl, HM⟩
          · replace ho5088 := cond_f hb5163 ho5088
            refine run_skip ?_
            refine at_then ?_
            refine run_seq ?_
            obtain ⟨e5164, ho5088⟩ := chk_some ho5088
            obtain ⟨e5166, ho5088⟩ := chk_some ho5088
            refine run_meet (fun ρ_ w_ => ρ_ = [(0, p0), (3, .int .i64 a5113), (46, .bool ((decide (0 < a5113)) && (decide (((gt x0 a5113).fKey) ≤ ((gt x0 (wrap64 (a5113 - 1))).fKey)))))] ∧ Mem w [] w_ []) ?_ ?_
            · skip
              refine run_drawf (fun w_ => Mem w [] w_ []) [(0, true), (1, true), (2, true), (3, true), (4, true), (5, true), (6, true), (7, true), (8, true), (9, true), (10, true), (11, true), (12, true), (13, true), (14, true), (15, true)] mixed rfl rfl (by kernel_rfl) ?_
              replace HM := HM.grow (fr_drew _)
              have hS := Mem.suf (M := []) HM
              refine dp rfl rfl rfl rfl (ex_move rfl rfl) hS ?_
              refine dp rfl rfl rfl rfl (ex_gtr rfl rfl rfl) hS ?_
              refine dp rfl rfl rfl rfl (ex_move rfl rfl) hS ?_
              refine bool_cases (decide (0 < a5113)) (fun hg5168 => ?_) (fun hg5168 => ?_)
              · skip
                refine drwp_take rfl (guard_on rfl rfl rfl hg5168) rfl rfl (fun w_ hS_ => (ex_move rfl rfl)) hS ?_
                refine drwp_take rfl (guard_on rfl rfl rfl hg5168) rfl rfl (fun w_ hS_ => (ex_move rfl rfl)) hS ?_
                have hc5165 : CellsAt _ (sb p0) (so p0 + (a5113).toNat * 3) [(.int .i64 ((gt x0 a5113).fKey)), (.int .i64 ((gt x0 a5113).fRef.fTx)), (.int .i64 ((gt x0 a5113).fRef.fAt))] := rd_plain hp0 (or_t e5164 hg5168)
                refine drwp_take rfl (guard_on rfl rfl rfl hg5168) rfl rfl (fun w_ hS_ => (ex_indexAddr (d := kMember) rfl rfl rfl Try.underlying24 tsz38 hp0 (idx_lo (or_t e5164 hg5168)) (idx_hi (or_t e5164 hg5168)))) hS ?_
                refine drwp_take rfl (guard_on rfl rfl rfl hg5168) rfl rfl (fun w_ hS_ => (ex_fieldAddr (off' := so p0 + (a5113).toNat * 3) rfl rfl Try.underlying38 rfl tsz2 rfl)) hS ?_
                refine drwp_take rfl (guard_on rfl rfl rfl hg5168) rfl rfl (fun w_ hS_ => (ex_load1 rfl rfl Try.underlying2 rfl ((hS_.at_ hc5165) 0 _ rfl))) hS ?_
                refine drwp_take rfl (guard_on rfl rfl rfl hg5168) rfl rfl (fun w_ hS_ => (ex_move rfl rfl)) hS ?_
                refine drwp_take rfl (guard_on rfl rfl rfl hg5168) rfl rfl (fun w_ hS_ => (ex_move rfl rfl)) hS ?_
                refine drwp_take rfl (guard_on rfl rfl rfl hg5168) rfl rfl (fun w_ hS_ => (ex_sub rfl rfl rfl)) hS ?_
                have hc5167 : CellsAt _ (sb p0) (so p0 + (wrap64 (a5113 - 1)).toNat * 3) [(.int .i64 ((gt x0 (wrap64 (a5113 - 1))).fKey)), (.int .i64 ((gt x0 (wrap64 (a5113 - 1))).fRef.fTx)), (.int .i64 ((gt x0 (wrap64 (a5113 - 1))).fRef.fAt))] := rd_plain hp0 (or_t e5166 hg5168)
                refine drwp_take rfl (guard_on rfl rfl rfl hg5168) rfl rfl (fun w_ hS_ => (ex_indexAddr (d := kMember) rfl rfl rfl Try.underlying24 tsz38 hp0 (idx_lo (or_t e5166 hg5168)) (idx_hi (or_t e5166 hg5168)))) hS ?_
                refine drwp_take rfl (guard_on rfl rfl rfl hg5168) rfl rfl (fun w_ hS_ => (ex_fieldAddr (off' := so p0 + (wrap64 (a5113 - 1)).toNat * 3) rfl rfl Try.underlying38 rfl tsz2 rfl)) hS ?_
                refine drwp_take rfl (guard_on rfl rfl rfl hg5168) rfl rfl (fun w_ hS_ => (ex_load1 rfl rfl Try.underlying2 rfl ((hS_.at_ hc5167) 0 _ rfl))) hS ?_
                refine drwp_take rfl (guard_on rfl rfl rfl hg5168) rfl rfl (fun w_ hS_ => (ex_leq rfl rfl rfl)) hS ?_
                refine drwp_take (v := .bool ((decide (0 < a5113)) && (decide (((gt x0 a5113).fKey) ≤ ((gt x0 (wrap64 (a5113 - 1))).fKey))))) rfl (guard_none rfl) rfl rfl (fun w_ hS_ => (ex_pand_t rfl rfl hg5168 rfl)) hS ?_
                refine drwp_done ?_
                exact at_meet [(0, p0), (3, .int .i64 a5113), (46, .bool ((decide (0 < a5113)) && (decide (((gt x0 a5113).fKey) ≤ ((gt x0 (wrap64 (a5113 - 1))).fKey)))))] ⟨rfl, HM⟩ (Sub.cons rfl (Sub.cons rfl (Sub.cons rfl Sub.nil)))
              · skip
                refine drwp_off rfl (guard_off rfl rfl rfl hg5168) rfl rfl hS ?_
                refine drwp_off rfl (guard_off rfl rfl rfl hg5168) rfl rfl hS ?_
                refine drwp_off rfl (guard_off rfl rfl rfl hg5168) rfl rfl hS ?_
                refine drwp_off rfl (guard_off rfl rfl rfl hg5168) rfl rfl hS ?_
                refine drwp_off rfl (guard_off rfl rfl rfl hg5168) rfl rfl hS ?_
                refine drwp_off rfl (guard_off rfl rfl rfl hg5168) rfl rfl hS ?_
                refine drwp_off rfl (guard_off rfl rfl rfl hg5168) rfl rfl hS ?_
                refine drwp_off rfl (guard_off rfl rfl rfl hg5168) rfl rfl hS ?_
                refine drwp_off rfl (guard_off rfl rfl rfl hg5168) rfl rfl hS ?_
                refine drwp_off rfl (guard_off rfl rfl rfl hg5168) rfl rfl hS ?_
                refine drwp_off rfl (guard_off rfl rfl rfl hg5168) rfl rfl hS ?_
                refine drwp_off rfl (guard_off rfl rfl rfl hg5168) rfl rfl hS ?_
                have hg5169 : ((decide (0 < a5113)) && (decide (((gt x0 a5113).fKey) ≤ ((gt x0 (wrap64 (a5113 - 1))).fKey)))) = false := by simp only [hg5168, Bool.and_true, Bool.true_and, Bool.and_false, Bool.false_and, Bool.or_true, Bool.true_or, Bool.or_false, Bool.false_or, Bool.not_true, Bool.not_false, Bool.not_not]
                refine drwp_take (v := .bool ((decide (0 < a5113)) && (decide (((gt x0 a5113).fKey) ≤ ((gt x0 (wrap64 (a5113 - 1))).fKey))))) rfl (guard_none rfl) rfl rfl (fun w_ hS_ => (ex_pand_f rfl rfl hg5168)) hS ?_
                refine drwp_done ?_
                exact at_meet [(0, p0), (3, .int .i64 a5113), (46, .bool ((decide (0 < a5113)) && (decide (((gt x0 a5113).fKey) ≤ ((gt x0 (wrap64 (a5113 - 1))).fKey)))))] ⟨rfl, HM⟩ (Sub.cons rfl (Sub.cons rfl (Sub.cons rfl Sub.nil)))
            · rintro _ w5170 ⟨rfl, HM⟩
              refine at_then ?_
              refine run_cond (b := ((decide (0 < a5113)) && (decide (((gt x0 a5113).fKey) ≤ ((gt x0 (wrap64 (a5113 - 1))).fKey))))) rfl (fun hb5171 => ?_) (fun hb5171 => ?_)
              · replace ho5088 := cond_t hb5171 ho5088
                refine run_seq ?_
                refine run_region rfl ?_
                refine ox rfl rfl rfl rfl (ex_assign rfl rfl) ?_
                refine ops_nil (at_then ?_)
                refine run_ret ?_
                refine at_block_ret ?_
                refine at_then_ret ?_
                refine at_then_ret ?_
                refine at_block_ret ?_
                refine at_then_ret ?_
                have hR := Option.some.inj ho5088
                subst hR
                have hT := thn_inl H
                have hR := Option.some.inj hT
                subst hR
                exact at_ret1 rfl rfl ⟨_, rfl, rfl, HM⟩
              · replace ho5088 := cond_f hb5171 ho5088
                refine run_skip ?_
                refine at_block ?_
                refine at_then ?_
                refine run_region rfl ?_
                refine ox rfl rfl rfl rfl (ex_move rfl rfl) ?_
                refine ox rfl rfl rfl rfl (ex_add rfl rfl rfl) ?_
                refine ox rfl rfl rfl rfl (ex_assign rfl rfl) ?_
                refine ops_nil ?_
                exact at_again k5138 (ρ1 := [(0, p0), (3, .int .i64 (wrap64 (a5113 + 1)))]) (Nat.lt_succ_self _) ⟨_, ho5088, rfl, HM⟩ (Sub.cons rfl (Sub.cons rfl Sub.nil))
      · replace ho5088 := cond_f hb5140 ho5088
        refine run_exit ?_
        refine at_then_exit ?_
        refine at_then_exit ?_
        refine at_block_exit ?_
        exact at_mid (ρ' := [(0, p0)]) ⟨(Option.some.inj ho5088), rfl, HM⟩ (Sub.cons rfl Sub.nil)
    · rintro _ w5172 ⟨rfl, rfl, HM⟩
      replace H := (thn_inr H)
      obtain ⟨o5240, ho5241, H⟩ := bind_some H
      refine run_mid (fun ρ_ w_ => Sum.inr () = o5240 ∧ ρ_ = [] ∧ Mem w [] w_ []) ?_ ?_
      · skip
        refine run_seq ?_
        refine run_region rfl ?_
        refine ox rfl rfl rfl rfl (ex_assign rfl rfl) ?_
        refine ops_nil (at_then ?_)
        refine run_block ?_
        refine run_loop (fun k_ ρ_ w_ => ∃ a5264 : Int, spec_l6Fault.l1 x0 k_ a5264 = some o5240 ∧ ρ_ = [(0, p0), (4, .int .i64 a5264)] ∧ Mem w [] w_ []) k (ρ1 := [(0, p0), (4, .int .i64 0)]) ⟨_, ho5241, rfl, HM⟩ (Sub.cons rfl (Sub.cons rfl Sub.nil)) ?_
        clear HM ho5241
        rintro k5287 _ w5288 ⟨a5264, ho5241, rfl, HM⟩
        obtain _ | k5287 := k5287
        · exact nomatch ((spec_l6Fault.l1_z x0 a5264).symm.trans ho5241)
        replace ho5241 := (spec_l6Fault.l1_s x0 k5287 a5264).symm.trans ho5241
        refine run_seq ?_
        refine run_seq ?_
        refine run_region rfl ?_
        refine ox rfl rfl rfl rfl (ex_move rfl rfl) ?_
        refine ox rfl rfl rfl rfl (ex_move rfl rfl) ?_
        refine ox rfl rfl rfl rfl (ex_len (d := kMember) (xs := x0) rfl rfl Try.underlying24 hp0) ?_
        refine ox rfl rfl rfl rfl (ex_lss rfl rfl rfl) ?_
        refine ops_nil (at_then ?_)
        refine run_cond (b := (decide (a5264 < (x0.length : Int)))) rfl (fun hb5289 => ?_) (fun hb5289 => ?_)
        · replace ho5241 := cond_t hb5289 ho5241
          refine run_skip ?_
          refine at_then ?_
          obtain ⟨o5309, ho5310, ho5241⟩ := bind_some ho5241
          refine run_mid (fun ρ_ w_ => Sum.inr () = o5309 ∧ ρ_ = [(0, p0), (4, .int .i64 a5264)] ∧ Mem w [] w_ []) ?_ ?_
          · skip
            refine run_block ?_
            refine run_seq ?_
            refine run_region rfl ?_
            refine ox rfl rfl rfl rfl (ex_assign rfl rfl) ?_
            refine ops_nil (at_then ?_)
            refine run_block ?_
            refine run_loop (fun k_ ρ_ w_ => ∃ a5317 : Int, spec_l6Fault.l2 x0 a5264 k_ a5317 = some o5309 ∧ ρ_ = [(0, p0), (4, .int .i64 a5264), (5, .int .i64 a5317)] ∧ Mem w [] w_ []) k5287 (ρ1 := [(0, p0), (4, .int .i64 a5264), (5, .int .i64 0)]) ⟨_, ho5310, rfl, HM⟩ (Sub.cons rfl (Sub.cons rfl (Sub.cons rfl Sub.nil))) ?_
            clear HM ho5310
            rintro k5324 _ w5325 ⟨a5317, ho5310, rfl, HM⟩
            obtain _ | k5324 := k5324
            · exact nomatch ((spec_l6Fault.l2_z x0 a5264 a5317).symm.trans ho5310)
            replace ho5310 := (spec_l6Fault.l2_s x0 a5264 k5324 a5317).symm.trans ho5310
            refine run_seq ?_
            refine run_seq ?_
            refine run_region rfl ?_
            refine ox rfl rfl rfl rfl (ex_move rfl rfl) ?_
            refine ox rfl rfl rfl rfl (ex_move rfl rfl) ?_
            refine ox rfl rfl rfl rfl (ex_lss rfl rfl rfl) ?_
            refine ops_nil (at_then ?_)
            refine run_cond (b := (decide (a5317 < a5264))) rfl (fun hb5326 => ?_) (fun hb5326 => ?_)
            · replace ho5310 := cond_t hb5326 ho5310
              refine run_skip ?_
              refine at_then ?_
              refine run_seq ?_
              refine run_block ?_
              refine run_seq ?_
              obtain ⟨e5327, ho5310⟩ := chk_some ho5310
              obtain ⟨e5329, ho5310⟩ := chk_some ho5310
              refine run_drawf (fun w_ => Mem w [] w_ []) [(0, true), (1, true), (2, true), (3, true), (4, true), (5, true), (6, true), (7, true), (8, true), (9, true), (10, true)] mixed rfl rfl (by kernel_rfl) ?_
              replace HM := HM.grow (fr_drew _)
              have hS := Mem.suf (M := []) HM
              refine dp rfl rfl rfl rfl (ex_move rfl rfl) hS ?_
              refine dp rfl rfl rfl rfl (ex_move rfl rfl) hS ?_
              have hc5328 : CellsAt _ (sb p0) (so p0 + (a5317).toNat * 3) [(.int .i64 ((gt x0 a5317).fKey)), (.int .i64 ((gt x0 a5317).fRef.fTx)), (.int .i64 ((gt x0 a5317).fRef.fAt))] := rd_plain hp0 e5327
              refine dp rfl rfl rfl rfl (ex_indexAddr (d := kMember) rfl rfl rfl Try.underlying24 tsz38 hp0 (idx_lo e5327) (idx_hi e5327)) hS ?_
              refine dp rfl rfl rfl rfl (ex_fieldAddr (off' := so p0 + (a5317).toNat * 3 + 1) rfl rfl Try.underlying38 rfl tsz36 rfl) hS ?_
              refine drwp_take rfl (guard_none rfl) rfl rfl (fun w_ hS_ => (ex_loadN (cs := [(.int .i64 ((gt x0 a5317).fRef.fTx)), (.int .i64 ((gt x0 a5317).fRef.fAt))]) rfl rfl Try.underlying36 rfl tsz36 rfl ((hS_.at_ hc5328).sub 1 2 rfl))) hS ?_
              refine dp rfl rfl rfl rfl (ex_move rfl rfl) hS ?_
              refine dp rfl rfl rfl rfl (ex_move rfl rfl) hS ?_
              have hc5330 : CellsAt _ (sb p0) (so p0 + (a5264).toNat * 3) [(.int .i64 ((gt x0 a5264).fKey)), (.int .i64 ((gt x0 a5264).fRef.fTx)), (.int .i64 ((gt x0 a5264).fRef.fAt))] := rd_plain hp0 e5329
              refine dp rfl rfl rfl rfl (ex_indexAddr (d := kMember) rfl rfl rfl Try.underlying24 tsz38 hp0 (idx_lo e5329) (idx_hi e5329)) hS ?_
              refine dp rfl rfl rfl rfl (ex_fieldAddr (off' := so p0 + (a5264).toNat * 3 + 1) rfl rfl Try.underlying38 rfl tsz36 rfl) hS ?_
              refine drwp_take rfl (guard_none rfl) rfl rfl (fun w_ hS_ => (ex_loadN (cs := [(.int .i64 ((gt x0 a5264).fRef.fTx)), (.int .i64 ((gt x0 a5264).fRef.fAt))]) rfl rfl Try.underlying36 rfl tsz36 rfl ((hS_.at_ hc5330).sub 1 2 rfl))) hS ?_
              refine dp rfl rfl rfl rfl (ex_aeql rfl rfl rfl (by kernel_rfl) (eqs36 _ _ _ _ _)) hS ?_
              refine drwp_done ?_
              refine at_then ?_
              refine run_cond (b := ((((gt x0 a5317).fRef.fTx) == ((gt x0 a5264).fRef.fTx)) && (((gt x0 a5317).fRef.fAt) == ((gt x0 a5264).fRef.fAt)))) rfl (fun hb5331 => ?_) (fun hb5331 => ?_)
              · replace ho5310 := cond_t hb5331 ho5310
                refine run_seq ?_
                refine run_region rfl ?_
                refine ox rfl rfl rfl rfl (ex_assign rfl rfl) ?_
                refine ops_nil (at_then ?_)
                refine run_ret ?_
                refine at_block_ret ?_
                refine at_then_ret ?_
                refine at_then_ret ?_
                refine at_block_ret ?_
                refine at_block_ret ?_
                refine at_then_ret ?_
                refine at_then_ret ?_
                refine at_block_ret ?_
                refine at_then_ret ?_
                have hR := Option.some.inj ho5310
                subst hR
                have hT := thn_inl ho5241
                have hR := Option.some.inj hT
                subst hR
                have hT := thn_inl H
                have hR := Option.some.inj hT
                subst hR
                exact at_ret1 rfl rfl ⟨_, rfl, rfl, HM⟩
              · replace ho5310 := cond_f hb5331 ho5310
                refine run_skip ?_
                refine at_block ?_
                refine at_then ?_
                refine run_region rfl ?_
                refine ox rfl rfl rfl rfl (ex_move rfl rfl) ?_
                refine ox rfl rfl rfl rfl (ex_add rfl rfl rfl) ?_
                refine ox rfl rfl rfl rfl (ex_assign rfl rfl) ?_
                refine ops_nil ?_
                exact at_again k5324 (ρ1 := [(0, p0), (4, .int .i64 a5264), (5, .int .i64 (wrap64 (a5317 + 1)))]) (Nat.lt_succ_self _) ⟨_, ho5310, rfl, HM⟩ (Sub.cons rfl (Sub.cons rfl (Sub.cons rfl Sub.nil)))
            · replace ho5310 := cond_f hb5326 ho5310
              refine run_exit ?_
              refine at_then_exit ?_
              refine at_then_exit ?_
              refine at_block_exit ?_
              refine at_block ?_
              exact at_mid (ρ' := [(0, p0), (4, .int .i64 a5264)]) ⟨(Option.some.inj ho5310), rfl, HM⟩ (Sub.cons rfl (Sub.cons rfl Sub.nil))
          · rintro _ w5332 ⟨rfl, rfl, HM⟩
            replace ho5241 := (thn_inr ho5241)
            refine run_region rfl ?_
            refine ox rfl rfl rfl rfl (ex_move rfl rfl) ?_
            refine ox rfl rfl rfl rfl (ex_add rfl rfl rfl) ?_
            refine ox rfl rfl rfl rfl (ex_assign rfl rfl) ?_
            refine ops_nil ?_
            exact at_again k5287 (ρ1 := [(0, p0), (4, .int .i64 (wrap64 (a5264 + 1)))]) (Nat.lt_succ_self _) ⟨_, ho5241, rfl, HM⟩ (Sub.cons rfl (Sub.cons rfl Sub.nil))
        · replace ho5241 := cond_f hb5289 ho5241
          refine run_exit ?_
          refine at_then_exit ?_
          refine at_then_exit ?_
          refine at_block_exit ?_
          exact at_mid (ρ' := []) ⟨(Option.some.inj ho5241), rfl, HM⟩ Sub.nil
      · rintro _ w5333 ⟨rfl, rfl, HM⟩
        replace H := (thn_inr H)
        refine run_seq ?_
        refine run_region rfl ?_
        refine ox rfl rfl rfl rfl (ex_assign rfl rfl) ?_
        refine ops_nil (at_then ?_)
        refine run_ret ?_
        have hR := Option.some.inj H
        subst hR
        exact at_ret1 rfl rfl ⟨_, rfl, rfl, HM⟩
end Go.Proofs.Ytbbcabpnkdilgaa.Zk
