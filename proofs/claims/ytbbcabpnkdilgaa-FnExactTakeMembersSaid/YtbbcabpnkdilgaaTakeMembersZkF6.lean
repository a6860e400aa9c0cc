/- What functions of the program compute, each as a plain function, and that they do. Conditions: as each theorem states them. -/
import Derived.Test.YtbbcabpnkdilgaaTakeMembersZkF5
namespace Go.Proofs.Ytbbcabpnkdilgaa.Zk
open Go Go.RowKit Go.IntWalk Go.Proofs
set_option linter.unusedVariables false
set_option linter.unusedSimpArgs false
set_option maxRecDepth 100000
set_option maxHeartbeats 4000000
def slices_ContainsFunc_impl_Member_v2.f (k : Nat) (x0 : List Member) (x1_0 : Ref) : Option Bool := ((slices_IndexFunc_impl_Member_v3.f k x0 x1_0).bind fun t4102 => some (decide (0 ≤ t4102)))
theorem slices_ContainsFunc_impl_Member_v2.calls {k : Nat} {x0 : List Member} {x1_0 : Ref} {p0 : Value} {b1_0 f1_0 : Nat} {w : World} (hp0 : RdS kMember w p0 x0) (hc1_0 : CellsAt w b1_0 f1_0 [.int .i64 x1_0.fTx, .int .i64 x1_0.fAt]) {r : Bool} (H : slices_ContainsFunc_impl_Member_v2.f k x0 x1_0 = some r) :
    Calls Try.prog 64 ([p0, .func (.func 114) #[] #[(.pointer (some ⟨b1_0, f1_0, none⟩))]] : List Value).toArray w (fun e w_ => ∃ v, e = .returned v ∧ v = (.bool r) ∧ Mem w [] w_ []) := by
  have HM := Mem.start w
  refine calls_run (N := 9) Try.func64 rfl rfl rfl rfl ?_
  unfold slices_ContainsFunc_impl_Member_v2.f at H
  refine run_seq ?_
  refine run_region rfl ?_
  refine ox rfl rfl rfl rfl (ex_assign rfl rfl) ?_
  refine ops_nil (at_then (run_seq ?_))
  obtain ⟨t4102, h4103, H⟩ := bind_some H
  refine run_region rfl ?_
  refine ox rfl rfl rfl rfl (ex_move rfl rfl) ?_
  refine ox rfl rfl rfl rfl (ex_move rfl rfl) ?_
  refine od rfl rfl rfl rfl (does_callk rfl callok124 rfl (slices_IndexFunc_impl_Member_v3.calls (x0 := x0) (x1_0 := x1_0) (HM.rd hp0) (HM.at_ hc1_0) h4103)) ?_
  rintro _ w4104 ⟨rfl, hn⟩
  replace HM : Mem w [] w4104 [] := HM.call hn
  refine ox rfl rfl rfl rfl (ex_geq rfl rfl rfl) ?_
  refine ox rfl rfl rfl rfl (ex_assign rfl rfl) ?_
  refine ops_nil (at_then ?_)
  refine run_ret ?_
  have hR := Option.some.inj H
  subst hR
  exact at_ret1 rfl rfl ⟨_, rfl, rfl, HM⟩

theorem cells_put {V : Type} (Ls ds A : List V) (a p : Nat) (hA : A.take a = Ls.take a) (ha : a ≤ Ls.length) (hp : p = a + ds.length) (hl : A.length = Ls.length + ds.length) :
    (A.take a ++ ds ++ A.drop (a + ds.length)).take p ++ Ls.drop a ++ (A.take a ++ ds ++ A.drop (a + ds.length)).drop (p + (Ls.drop a).length) = Ls.take a ++ ds ++ Ls.drop a := by
  have h1 : (A.take a ++ ds).length = p := by rw [hA, List.length_append, List.length_take, hp]; omega
  have h2 : (A.take a ++ ds ++ A.drop (a + ds.length)).drop (p + (Ls.drop a).length) = [] := List.drop_of_length_le (by rw [List.length_append, h1, List.length_drop, List.length_drop]; omega)
  rw [h2, List.take_append_of_le_length (by omega), List.take_of_length_le (by omega), List.append_nil, hA]
theorem cells_shift {V : Type} (Ls ds js : List V) (a p : Nat) (ha : a ≤ Ls.length) (hp : p = a + ds.length) (hl : (Ls ++ js).length = Ls.length + ds.length) :
    ((Ls ++ js).take p ++ Ls.drop a ++ (Ls ++ js).drop (p + (Ls.drop a).length)).take a ++ ds ++ ((Ls ++ js).take p ++ Ls.drop a ++ (Ls ++ js).drop (p + (Ls.drop a).length)).drop (a + ds.length) = Ls.take a ++ ds ++ Ls.drop a := by
  have h1 : ((Ls ++ js).take p).length = p := by rw [List.length_take, hl, hp]; omega
  have h2 : (Ls ++ js).drop (p + (Ls.drop a).length) = [] := List.drop_of_length_le (by rw [hl, List.length_drop]; omega)
  rw [h2, List.append_nil, List.take_append_of_le_length (by omega), List.take_take, Nat.min_eq_left (by omega), List.take_append_of_le_length ha, ← hp, List.drop_append_of_le_length (by omega), List.drop_of_length_le (by omega), List.nil_append]
theorem Mem.rawLe {w w0 : World} {X : List Nat} {M : List Chunk} {T sz n c g : Nat} {cs : List Value} (hn : 0 < n) (h : Mem w0 X w (raw T sz (.slice (some ⟨g, 0, none⟩) n c) n cs :: M)) : n ≤ c ∧ c ≤ maxLen := by
  obtain ⟨g', c', he, h1, h2⟩ := h.rawAt hn
  injection he with e1 e2 e3
  subst e3
  exact ⟨h1, h2⟩
theorem Mem.rawApart {w w0 : World} {X : List Nat} {M : List Chunk} {T T' sz sz' n m c c' g b : Nat} {cs ds : List Value} (hn : 0 < n) (hm : 0 < m) (h : Mem w0 X w (raw T sz (.slice (some ⟨g, 0, none⟩) n c) n cs :: raw T' sz' (.slice (some ⟨b, 0, none⟩) m c') m ds :: M)) : b ≠ g := by
  have key : ∀ {T sz n c g : Nat} {cs : List Value} {f : List Nat}, 0 < n → RowC w T sz (.slice (some ⟨g, 0, none⟩) n c) n cs f → f = [g] := by
    intro T sz n c g cs f hn hr
    rcases hr with ⟨A, h9, h0, _⟩ | ⟨g', c', cur, h9, _, _, _, _, _, rfl⟩
    · omega
    · injection h9 with e1 e2 e3
      injection e1 with e1
      injection e1 with e1
      rw [e1]
  obtain ⟨F, h1, h2, h3⟩ := h.hold
  cases h1 with
  | cons hc hM =>
    cases hM with
    | cons hc2 hM2 =>
      have e1 := key hn hc; have e2 := key hm hc2
      subst e1; subst e2
      intro e
      subst e
      simp at h2
theorem run_ov {w : World} {b g o2 m c2 lb cb : Nat} {kA kB : Nat} (hne : b ≠ g) (hsa : w.shape? b = some (38, kA)) (hsb : w.shape? g = some (38, kB)) (hkB : kB ≠ 0) (hfa : ∀ i, w.frozen? ⟨b, i, none⟩ = false) :
    (callFunc 149 (([.slice (some ⟨b, 0, none⟩) m c2, .slice (some ⟨g, o2, none⟩) lb cb] : List Value).toArray)).run Try.prog w = .ok (.value (.bool false)) w := by
  have h := Lib.run_overlaps_apart (P := Try.prog) w 24 4 38 Try.underlying24 3 (fun w => run_sizeOf tsz38) ⟨b, 0, none⟩ ⟨g, o2, none⟩ m c2 lb cb hne 38 38 kA kB hsa hsb hkB (hfa 0) (hfa kA)
  rw [run_callFunc_extern Try.func149 (by kernel_rfl) (by kernel_rfl) (by kernel_rfl) (e := Extern.SlicesOverlaps.overlaps #[24, 24] #[4]) (by kernel_rfl)]
  simp only [Sem.run_bind, h, Result.andThen_ok]
  try rfl
def slices_Insert_Member.f (k : Nat) (x0 : List Member) (x1 : Int) (x2 : List Member) : Option (List Member) := (chk (cutOk x1 x0.length && (leB 1 x2.length && leB ((x0.length + x2.length) * 24) 140737488355328)) (some (x0.take x1.toNat ++ x2 ++ x0.drop x1.toNat)))
theorem slices_Insert_Member.calls {k : Nat} {x0 : List Member} {x1 : Int} {x2 : List Member} {p0 p2 : Value} {w wo : World} {X : List Nat} (hwo : Olds wo w X) (hX : Hold w [own kMember 38 p0 x0, own kMember 38 p2 x2] X) (hXn : X.Nodup) (hXl : ∀ b ∈ X, b < w.heap.size) {r : List Member} (H : slices_Insert_Member.f k x0 x1 x2 = some r) :
    Calls Try.prog 115 ([p0, .int .i64 x1, p2] : List Value).toArray w (fun e w_ => ∃ v, e = .returned v ∧ ∃ u0 : Value, v = u0 ∧ Mem w X w_ [own kMember 38 u0 r]) := by
  have HM := Mem.startX hX hXn hXl
  obtain ⟨h, H⟩ := chk_some H
  have hR := Option.some.inj H
  subst hR
  rw [Bool.and_eq_true, Bool.and_eq_true] at h
  have hi0 := cut_lo h.1; have hi1 := cut_hi h.1; have hm := leB_le h.2.1; have hbig := leB_le h.2.2; have hco := h.1
  obtain ⟨i, rfl⟩ : ∃ i : Nat, x1 = (i : Int) := ⟨x1.toNat, (Int.toNat_of_nonneg hi0).symm⟩
  simp only [Int.toNat_natCast] at hi1 ⊢
  have hsm : x0.length + x2.length ≤ 140737488355328 := Nat.le_trans (Nat.le_mul_of_pos_right _ (by decide)) hbig
  have hnm : wrap64 ((x0.length : Int) + (x2.length : Int)) = ((x0.length + x2.length : Nat) : Int) := by rw [wrap64_in _ (by omega)]; omega
  have him : wrap64 ((i : Int) + (x2.length : Int)) = ((i + x2.length : Nat) : Int) := by rw [wrap64_in _ (by omega)]; omega
  have hqq : wrap64 (((x0.length + x2.length : Nat) : Int) - (i : Int)) = ((x0.length + x2.length - i : Nat) : Int) := by rw [wrap64_in _ (by omega)]; omega
  refine calls_run (N := 95) Try.func115 rfl rfl rfl rfl ?_
  refine run_seq ?_
  refine run_region rfl ?_
  refine ox rfl rfl rfl rfl (ex_assign rfl rfl) ?_
  refine ops_nil (at_then ?_)
  refine run_seq ?_
  refine run_region rfl ?_
  refine ox rfl rfl rfl rfl (ex_move rfl rfl) ?_
  refine ox rfl rfl rfl rfl (ex_move rfl rfl) ?_
  refine ox rfl rfl rfl rfl (ex_cutvL (d := kMember) rfl rfl rfl Try.underlying24 tsz38 (HM.own_rd 0 rfl) hco) ?_
  refine ops_nil (at_then ?_)
  refine run_seq ?_
  refine run_region rfl ?_
  refine ox rfl rfl rfl rfl (ex_move rfl rfl) ?_
  refine ox rfl rfl rfl rfl (ex_len (d := kMember) (xs := x2) rfl rfl Try.underlying24 (HM.own_rd 1 rfl)) ?_
  refine ox rfl rfl rfl rfl (ex_assign rfl rfl) ?_
  refine ops_nil (at_then ?_)
  refine run_seq ?_
  refine run_seq ?_
  refine run_region rfl ?_
  refine ox rfl rfl rfl rfl (ex_move rfl rfl) ?_
  refine ox rfl rfl rfl rfl (ex_eql rfl rfl rfl) ?_
  refine ops_nil (at_then ?_)
  refine run_cond (b := ((x2.length : Int) == 0)) rfl (fun hb => absurd hb (by rw [beq_false_of_ne (by omega)]; exact Bool.false_ne_true)) (fun hb => ?_)
  refine run_skip ?_
  refine at_then ?_
  refine run_seq ?_
  refine run_region rfl ?_
  refine ox rfl rfl rfl rfl (ex_move rfl rfl) ?_
  refine ox rfl rfl rfl rfl (ex_len (d := kMember) (xs := x0) rfl rfl Try.underlying24 (HM.own_rd 0 rfl)) ?_
  refine ox rfl rfl rfl rfl (ex_assign rfl rfl) ?_
  refine ops_nil (at_then ?_)
  refine run_seq ?_
  refine run_seq ?_
  refine run_region rfl ?_
  refine ox rfl rfl rfl rfl (ex_move rfl rfl) ?_
  refine ox rfl rfl rfl rfl (ex_move rfl rfl) ?_
  refine ox rfl rfl rfl rfl (ex_eql rfl rfl rfl) ?_
  refine ops_nil (at_then ?_)
  refine run_cond (b := ((i : Int) == (x0.length : Int))) rfl (fun hb => ?_) (fun hb => ?_)
  · have hin : i = x0.length := by
      have : (i : Int) = (x0.length : Int) := by simpa using hb
      omega
    refine run_seq ?_
    refine run_region rfl ?_
    refine ox rfl rfl rfl rfl (ex_move rfl rfl) ?_
    refine ox rfl rfl rfl rfl (ex_move rfl rfl) ?_
    refine od rfl rfl rfl rfl (does_append kMember rfl rfl rfl Try.underlying24 tsz38 rfl tby38 tz38 rfl rfl hbig HM) ?_
    rintro v1 w1 HM
    refine ox rfl rfl rfl rfl (ex_assign rfl rfl) ?_
    refine ops_nil (at_then ?_)
    refine run_ret ?_
    refine at_then_ret ?_
    rw [hin, List.take_of_length_le (Nat.le_refl _), List.drop_of_length_le (Nat.le_refl _), List.append_nil]
    exact at_ret1 rfl rfl ⟨_, rfl, _, rfl, HM⟩
  · have hin : i < x0.length := by
      have : ¬ ((i : Int) = (x0.length : Int)) := by simpa using hb
      omega
    obtain ⟨cs, hE, HM⟩ := HM.toRaw flat_plain
    obtain ⟨g, c, hp, hnc, hcm⟩ := HM.rawAt (by omega)
    subst hp
    replace HM := HM.front 1 rfl rfl
    obtain ⟨ds, hE2, HM⟩ := HM.toRaw flat_plain
    obtain ⟨b, c2, hp2, hnc2, hcm2⟩ := HM.rawAt (by omega)
    subst hp2
    replace HM := HM.front 1 rfl rfl
    have hbg := HM.rawApart (by omega) (by omega)
    have hl1 : cs.length = x0.length * 3 := (hE w).length
    have hl2 : ds.length = x2.length * 3 := (hE2 w).length
    have ho1 := (hE w).one; have ho2 := (hE2 w).one
    have hEE : ∀ w', Elems kMember w' (cs.take (i * 3) ++ ds ++ cs.drop (i * 3)) (x0.take i ++ x2 ++ x0.drop i) [] := fun w' => by
      obtain ⟨f1, f2, hf, e1, e2⟩ := (hE w').cut i (by omega)
      obtain ⟨rfl, rfl⟩ : f1 = [] ∧ f2 = [] := by simpa using hf.symm
      exact (e1.append (hE2 w')).append e2
    have hNN : (x0.take i ++ x2 ++ x0.drop i).length = x0.length + x2.length := by simp; omega
    have hdl : (cs.drop (i * 3)).length = (x0.length - i) * 3 := by rw [List.length_drop, hl1]; omega
    have ho3 : ∀ u ∈ cs.drop (i * 3), u.oneCell' = true := fun u hu => ho1 u (List.mem_of_mem_drop hu)
    refine run_skip ?_
    refine at_then ?_
    refine run_seq ?_
    refine run_seq ?_
    refine run_region rfl ?_
    refine ox rfl rfl rfl rfl (ex_move rfl rfl) ?_
    refine ox rfl rfl rfl rfl (ex_move rfl rfl) ?_
    refine ox rfl rfl rfl rfl (ex_addc rfl rfl rfl hnm) ?_
    refine ox rfl rfl rfl rfl (ex_move rfl rfl) ?_
    refine ox rfl rfl rfl rfl (ex_cap rfl rfl Try.underlying24) ?_
    refine ox rfl rfl rfl rfl (ex_gtr rfl rfl rfl) ?_
    refine ops_nil (at_then ?_)
    refine run_cond (b := (decide ((c : Int) < ((x0.length + x2.length : Nat) : Int)))) rfl (fun hb2 => ?_) (fun hb2 => ?_)
    · have hroom : c < x0.length + x2.length := by have := of_decide_eq_true hb2; omega
      have hik : i + (x0.length + x2.length - i) = x0.length + x2.length := by omega
      refine run_seq ?_
      refine run_region rfl ?_
      refine ox rfl rfl rfl rfl (ex_move rfl rfl) ?_
      refine ox rfl rfl rfl rfl (ex_move rfl rfl) ?_
      refine ox rfl rfl rfl rfl (ex_slH (m := i) rfl rfl rfl Try.underlying24 tsz38 hnc (by omega)) ?_
      refine ox rfl rfl rfl rfl (ex_move rfl rfl) ?_
      refine ox rfl rfl rfl rfl (ex_move rfl rfl) ?_
      refine ox rfl rfl rfl rfl (ex_addc rfl rfl rfl hnm) ?_
      refine ox rfl rfl rfl rfl (ex_move rfl rfl) ?_
      refine ox rfl rfl rfl rfl (ex_subc rfl rfl rfl hqq) ?_
      refine od rfl rfl rfl rfl (does_appMk (z := _) rfl rfl rfl Try.underlying24 Try.underlying3 tsz38 tby38 tz38 rfl (by decide) hin (by omega) (by omega) (by rw [hik]; exact hbig) (by rw [hik]; simp only [maxLen]; omega) HM) ?_
      rintro _ w1 ⟨g2, c3, zs, rfl, hzs, HM⟩
      simp only [hik] at HM ⊢
      have hc3 := HM.rawLe (by omega)
      refine ox rfl rfl rfl rfl (ex_assign rfl rfl) ?_
      refine ops_nil (at_then ?_)
      refine run_seq ?_
      refine run_region rfl ?_
      refine ox rfl rfl rfl rfl (ex_move rfl rfl) ?_
      refine ox rfl rfl rfl rfl (ex_move rfl rfl) ?_
      refine ox rfl rfl rfl rfl (ex_slL (l := i) rfl rfl rfl Try.underlying24 tsz38 hc3.1 (by omega) (by omega)) ?_
      refine ox rfl rfl rfl rfl (ex_move rfl rfl) ?_
      have hmin : Nat.min x2.length (x0.length + x2.length - i) = x2.length := by simp only [Nat.min_def]; split <;> omega
      refine od rfl rfl rfl rfl (does_copyR (k := i) (q := 0) (ds := ds) rfl rfl rfl Try.underlying24 tsz38 (fun j u hj => by rw [Nat.zero_add]; exact (HM.rawCell (by omega) 2 rfl).1 j u hj) ho2 (by rw [hl2, hmin]) (by omega) (by omega) HM) ?_
      rintro _ w2 HM
      refine ops_nil (at_then ?_)
      refine run_seq ?_
      refine run_drawf (fun _ => True) [(0, true), (1, true), (2, true), (3, true), (4, true), (5, true), (6, true), (7, true), (8, false)] mixed rfl rfl (by kernel_rfl) ?_
      replace HM := HM.grow (fr_drew _)
      refine dp rfl rfl rfl rfl (ex_move rfl rfl) trivial ?_
      refine dp rfl rfl rfl rfl (ex_move rfl rfl) trivial ?_
      refine dp rfl rfl rfl rfl (ex_move rfl rfl) trivial ?_
      refine dp rfl rfl rfl rfl (ex_addc rfl rfl rfl him) trivial ?_
      refine dp rfl rfl rfl rfl (ex_slL (l := i + x2.length) rfl rfl rfl Try.underlying24 tsz38 hc3.1 (by omega) (by omega)) trivial ?_
      refine dp rfl rfl rfl rfl (ex_move rfl rfl) trivial ?_
      refine dp rfl rfl rfl rfl (ex_move rfl rfl) trivial ?_
      refine dp rfl rfl rfl rfl (ex_slL (l := i) rfl rfl rfl Try.underlying24 tsz38 hnc (by omega) (by omega)) trivial ?_
      have hmin2 : Nat.min (x0.length - i) (x0.length + x2.length - (i + x2.length)) = x0.length - i := by simp only [Nat.min_def]; split <;> omega
      refine drwp_one rfl (guard_none rfl) rfl rfl (does_copyR (k := i + x2.length) (q := i * 3) (ds := cs.drop (i * 3)) rfl rfl rfl Try.underlying24 tsz38 (fun j u hj => (HM.rawCell (by omega) 1 rfl).1 _ u (by rwa [List.getElem?_drop] at hj)) ho3 (by rw [hdl, hmin2]) (by omega) (by omega) HM) ?_
      rintro _ w3 HM
      refine ⟨trivial, ?_⟩
      refine drwp_done ?_
      refine at_then ?_
      refine run_seq ?_
      refine run_region rfl ?_
      refine ox rfl rfl rfl rfl (ex_move rfl rfl) ?_
      refine ox rfl rfl rfl rfl (ex_assign rfl rfl) ?_
      refine ops_nil (at_then ?_)
      refine run_ret ?_
      refine at_then_ret ?_
      have htk : (cs.take (i * 3)).length = i * 3 := by rw [List.length_take, hl1]; omega
      rw [cells_put cs ds (cs.take (i * 3) ++ zs) (i * 3) ((i + x2.length) * 3) (by rw [List.take_append_of_le_length (by omega), List.take_of_length_le (by omega)]) (by omega) (by omega) (by rw [List.length_append, htk, hzs]; omega)] at HM
      replace HM := Mem.ofRaw hEE hNN HM
      replace HM := (HM.front 1 rfl rfl).drop
      replace HM := (HM.front 1 rfl rfl).drop
      exact at_ret1 rfl rfl ⟨_, rfl, _, rfl, HM⟩
    · have hroom : x0.length + x2.length ≤ c := by have := of_decide_eq_false hb2; omega
      refine run_skip ?_
      refine at_then ?_
      refine run_seq ?_
      refine run_region rfl ?_
      refine ox rfl rfl rfl rfl (ex_move rfl rfl) ?_
      refine ox rfl rfl rfl rfl (ex_move rfl rfl) ?_
      refine ox rfl rfl rfl rfl (ex_move rfl rfl) ?_
      refine ox rfl rfl rfl rfl (ex_addc rfl rfl rfl hnm) ?_
      refine ox rfl rfl rfl rfl (ex_slH (m := x0.length + x2.length) rfl rfl rfl Try.underlying24 tsz38 hnc hroom) ?_
      refine ox rfl rfl rfl rfl (ex_assign rfl rfl) ?_
      obtain ⟨js, hjs, HM⟩ := HM.rawExt (m := x0.length + x2.length) (by omega) (by omega) hroom
      refine ops_nil (at_then ?_)
      refine run_seq ?_
      refine run_seq ?_
      refine run_region rfl ?_
      refine ox rfl rfl rfl rfl (ex_move rfl rfl) ?_
      refine ox rfl rfl rfl rfl (ex_move rfl rfl) ?_
      refine ox rfl rfl rfl rfl (ex_move rfl rfl) ?_
      refine ox rfl rfl rfl rfl (ex_move rfl rfl) ?_
      refine ox rfl rfl rfl rfl (ex_addc rfl rfl rfl him) ?_
      refine ox rfl rfl rfl rfl (ex_slL (l := i + x2.length) rfl rfl rfl Try.underlying24 tsz38 hroom (by omega) (by omega)) ?_
      obtain ⟨_, ⟨kB, hsB, hkB⟩, hfB⟩ := HM.rawCell (by omega) 0 rfl
      obtain ⟨_, ⟨kA, hsA, hkA⟩, hfA⟩ := HM.rawCell (by omega) 1 rfl
      have hkB' : kB = c * 3 := hkB
      refine od rfl rfl rfl rfl (does_ext rfl rfl (run_ov hbg hsA hsB (by omega) hfA)) ?_
      rintro _ _ ⟨rfl, rfl⟩
      refine ox rfl rfl rfl rfl (ex_not rfl rfl) ?_
      refine ops_nil (at_then ?_)
      refine run_cond (b := (!false)) rfl (fun hb3 => ?_) (fun hb3 => absurd hb3 (by decide))
      refine run_seq ?_
      refine run_drawf (fun _ => True) [(0, true), (1, true), (2, true), (3, true), (4, true), (5, true), (6, true), (7, true), (8, false)] mixed rfl rfl (by kernel_rfl) ?_
      replace HM := HM.grow (fr_drew _)
      refine dp rfl rfl rfl rfl (ex_move rfl rfl) trivial ?_
      refine dp rfl rfl rfl rfl (ex_move rfl rfl) trivial ?_
      refine dp rfl rfl rfl rfl (ex_move rfl rfl) trivial ?_
      refine dp rfl rfl rfl rfl (ex_addc rfl rfl rfl him) trivial ?_
      refine dp rfl rfl rfl rfl (ex_slL (l := i + x2.length) rfl rfl rfl Try.underlying24 tsz38 hroom (by omega) (by omega)) trivial ?_
      refine dp rfl rfl rfl rfl (ex_move rfl rfl) trivial ?_
      refine dp rfl rfl rfl rfl (ex_move rfl rfl) trivial ?_
      refine dp rfl rfl rfl rfl (ex_slL (l := i) rfl rfl rfl Try.underlying24 tsz38 hroom (by omega) (by omega)) trivial ?_
      have hmin2 : Nat.min (x0.length + x2.length - i) (x0.length + x2.length - (i + x2.length)) = x0.length - i := by simp only [Nat.min_def]; split <;> omega
      refine drwp_one rfl (guard_none rfl) rfl rfl (does_copyR (k := i + x2.length) (q := i * 3) (ds := cs.drop (i * 3)) rfl rfl rfl Try.underlying24 tsz38 (fun j u hj => (HM.rawCell (by omega) 0 rfl).1 _ u (by rw [List.getElem?_drop] at hj; exact (List.getElem?_append_left (by have := (List.getElem?_eq_some_iff.1 hj).1; omega)).trans hj)) ho3 (by rw [hdl, hmin2]) (by omega) (by omega) HM) ?_
      rintro _ w3 HM
      refine ⟨trivial, ?_⟩
      refine drwp_done ?_
      refine at_then ?_
      refine run_seq ?_
      refine run_region rfl ?_
      refine ox rfl rfl rfl rfl (ex_move rfl rfl) ?_
      refine ox rfl rfl rfl rfl (ex_move rfl rfl) ?_
      refine ox rfl rfl rfl rfl (ex_slL (l := i) rfl rfl rfl Try.underlying24 tsz38 hroom (by omega) (by omega)) ?_
      refine ox rfl rfl rfl rfl (ex_move rfl rfl) ?_
      have hmin : Nat.min x2.length (x0.length + x2.length - i) = x2.length := by simp only [Nat.min_def]; split <;> omega
      refine od rfl rfl rfl rfl (does_copyR (k := i) (q := 0) (ds := ds) rfl rfl rfl Try.underlying24 tsz38 (fun j u hj => by rw [Nat.zero_add]; exact (HM.rawCell (by omega) 1 rfl).1 j u hj) ho2 (by rw [hl2, hmin]) (by omega) (by omega) HM) ?_
      rintro _ w4 HM
      refine ops_nil (at_then ?_)
      refine run_seq ?_
      refine run_region rfl ?_
      refine ox rfl rfl rfl rfl (ex_move rfl rfl) ?_
      refine ox rfl rfl rfl rfl (ex_assign rfl rfl) ?_
      refine ops_nil (at_then ?_)
      refine run_ret ?_
      refine at_then_ret ?_
      have hjs' : (cs ++ js).length = (x0.length + x2.length) * 3 := hjs
      rw [cells_shift cs ds js (i * 3) ((i + x2.length) * 3) (by omega) (by omega) (by omega)] at HM
      replace HM := Mem.ofRaw hEE hNN HM
      replace HM := (HM.front 1 rfl rfl).drop
      exact at_ret1 rfl rfl ⟨_, rfl, _, rfl, HM⟩

def impl_takeMembers.f (k : Nat) (x0 : List Member) (x1 : Tx) (x2 : Int) : Option ((List Member) × Int) := ((impl_isId.f k x2).bind fun t4133 => (bif !t4133 then some (([] : List Member), 3) else ((slices_Clone_impl_Member.f k x0).bind fun t4138 => ((bif (x1.fKind == 2) then ((impl_findMember.f k t4138 x1.fMember).bind fun t4179 => (bif !t4179.2 then some (.inl (([] : List Member), 4)) else ((slices_Delete_impl_Member.f k t4138 t4179.1 (wrap64 (t4179.1 + 1))).bind fun t4185 => some (.inr t4185)))) else some (.inr t4138)).bind fun o4176 => thn o4176 (fun r => some r) (fun a4174 => ((slices_DeleteFunc_impl_Member.f k a4174 x1).bind fun t4197 => (bif (x1.fKind != 1) then some (t4197, 0) else ((impl_findMember.f k t4197 x1.fMember).bind fun t4215 => ((bif (!t4215.2) then slices_ContainsFunc_impl_Member_v2.f k t4197 (⟨x2, 0⟩ : Ref) else some default).bind fun t4222 => (bif (t4215.2 || t4222) then some (([] : List Member), 7) else (bif ((t4197.length : Int) == 8) then some (([] : List Member), 2) else ((slices_Insert_Member.f k t4197 t4215.1 ([(⟨x1.fMember, (⟨x2, 0⟩ : Ref)⟩ : Member)] : List Member)).bind fun t4235 => some (t4235, 0)))))))))))))
theorem impl_takeMembers.calls {k : Nat} {x0 : List Member} {x1 : Tx} {x2 : Int} {p0 : Value} {p1_0 : Value} {p1_1 : Value} {w : World} (hp0 : RdS kMember w p0 x0) (hp1_0 : RdS kRef w p1_0 x1.fIns) (hp1_1 : RdS kOut w p1_1 x1.fOuts) {r : (List Member) × Int} (H : impl_takeMembers.f k x0 x1 x2 = some r) :
    Calls Try.prog 55 ([p0, .agg #[(.int .i64 x1.fKind), (.int .i64 x1.fMember), p1_0, p1_1], .int .i64 x2] : List Value).toArray w (fun e w_ => ∃ v, e = .returned v ∧ ∃ u0 : Value, v = (.tuple #[u0, .int .i64 r.2]) ∧ Mem w [] w_ [own kMember 38 u0 r.1]) := by
  have HM := Mem.start w
  refine calls_run (N := 71) Try.func55 rfl rfl rfl rfl ?_
  unfold impl_takeMembers.f at H
  refine run_seq ?_
  refine run_region rfl ?_
  refine od rfl rfl rfl rfl (does_box (cs := [.int .i64 x1.fKind, .int .i64 x1.fMember, p1_0, p1_1]) rfl rfl rfl HM) ?_
  rintro _ w4129 ⟨b4126, rfl, HM⟩
  refine ox rfl rfl rfl rfl (ex_assign rfl rfl) ?_
  refine ox rfl rfl rfl rfl (ex_assign rfl rfl) ?_
  refine ops_nil (at_then (run_seq ?_))
  refine run_seq ?_
  obtain ⟨t4133, h4134, H⟩ := bind_some H
  refine run_region rfl ?_
  refine ox rfl rfl rfl rfl (ex_move rfl rfl) ?_
  refine od rfl rfl rfl rfl (does_callk rfl callok109 rfl (impl_isId.calls (x0 := x2) h4134)) ?_
  rintro _ w4135 ⟨rfl, hn⟩
  replace HM : Mem w [] w4135 [box b4126 28 [.int .i64 x1.fKind, .int .i64 x1.fMember, p1_0, p1_1]] := HM.call hn
  refine ox rfl rfl rfl rfl (ex_not rfl rfl) ?_
  refine ops_nil (at_then ?_)
  refine run_cond (b := !t4133) rfl (fun hb4136 => ?_) (fun hb4136 => ?_)
  · replace H := cond_t hb4136 H
    refine run_seq ?_
    refine run_region rfl ?_
    refine ox rfl rfl rfl rfl (ex_assign rfl rfl) ?_
    refine ox rfl rfl rfl rfl (ex_assign rfl rfl) ?_
    refine ops_nil (at_then ?_)
    refine run_ret ?_
    refine at_then_ret ?_
    replace HM := HM.empty kMember 38 none
    replace HM := (HM.front 1 rfl rfl).drop
    have hR := Option.some.inj H
    subst hR
    exact at_ret2 rfl rfl rfl ⟨_, rfl, _, rfl, HM⟩
  · replace H := cond_f hb4136 H
    refine run_skip ?_
    refine at_then ?_
    refine run_seq ?_
    obtain ⟨t4138, h4139, H⟩ := bind_some H
    refine run_region rfl ?_
    refine ox rfl rfl rfl rfl (ex_move rfl rfl) ?_
    refine od rfl rfl rfl rfl (does_callk rfl callok110 rfl (slices_Clone_impl_Member.calls (x0 := x0) (HM.rd hp0) h4139)) ?_
    rintro u4140 w4142 ⟨_, rfl, hn⟩
    replace HM : Mem w [] w4142 [own kMember 38 u4140 t4138, box b4126 28 [.int .i64 x1.fKind, .int .i64 x1.fMember, p1_0, p1_1]] := HM.call hn
    refine ox rfl rfl rfl rfl (ex_assign rfl rfl) ?_
    refine ops_nil (at_then ?_)
    obtain ⟨o4176, ho4177, H⟩ := bind_some H
    refine run_mid (fun ρ_ w_ => ∃ v4173 : Value, ∃ a4174 : List Member, Sum.inr a4174 = o4176 ∧ ρ_ = [(2, .int .i64 x2), (4, .pointer (some ⟨b4126, 0, none⟩)), (8, v4173)] ∧ Mem w [] w_ [box b4126 28 [.int .i64 x1.fKind, .int .i64 x1.fMember, p1_0, p1_1], own kMember 38 v4173 a4174]) ?_ ?_
    · skip
      refine run_seq ?_
      refine run_region rfl ?_
      refine ox rfl rfl rfl rfl (ex_fieldAddr (off' := 0) rfl rfl Try.underlying28 rfl tsz2 rfl) ?_
      refine ox rfl rfl rfl rfl (ex_load1 rfl rfl Try.underlying2 rfl ((HM.box_at 1 rfl) 0 _ rfl)) ?_
      refine ox rfl rfl rfl rfl (ex_eql rfl rfl rfl) ?_
      refine ops_nil (at_then ?_)
      refine run_cond (b := (x1.fKind == 2)) rfl (fun hb4178 => ?_) (fun hb4178 => ?_)
      · replace ho4177 := cond_t hb4178 ho4177
        refine run_seq ?_
        obtain ⟨t4179, h4180, ho4177⟩ := bind_some ho4177
        refine run_region rfl ?_
        refine ox rfl rfl rfl rfl (ex_move rfl rfl) ?_
        refine ox rfl rfl rfl rfl (ex_fieldAddr (off' := 1) rfl rfl Try.underlying28 rfl tsz2 rfl) ?_
        refine ox rfl rfl rfl rfl (ex_load1 rfl rfl Try.underlying2 rfl ((HM.box_at 1 rfl) 1 _ rfl)) ?_
        refine od rfl rfl rfl rfl (does_callk rfl callok60 rfl (impl_findMember.calls (x0 := t4138) (x1 := x1.fMember) (HM.own_rd 0 rfl) h4180)) ?_
        rintro _ w4181 ⟨rfl, hn⟩
        replace HM : Mem w [] w4181 [own kMember 38 u4140 t4138, box b4126 28 [.int .i64 x1.fKind, .int .i64 x1.fMember, p1_0, p1_1]] := HM.call hn
        refine ox rfl rfl rfl rfl (ex_move rfl rfl) ?_
        refine ox rfl rfl rfl rfl (ex_extract rfl rfl rfl) ?_
        refine ox rfl rfl rfl rfl (ex_extract rfl rfl rfl) ?_
        refine ox rfl rfl rfl rfl (ex_assign rfl rfl) ?_
        refine ox rfl rfl rfl rfl (ex_assign rfl rfl) ?_
        refine ops_nil (at_then (run_seq ?_))
        refine run_seq ?_
        refine run_region rfl ?_
        refine ox rfl rfl rfl rfl (ex_move rfl rfl) ?_
        refine ox rfl rfl rfl rfl (ex_not rfl rfl) ?_
        refine ops_nil (at_then ?_)
        refine run_cond (b := !t4179.2) rfl (fun hb4183 => ?_) (fun hb4183 => ?_)
        · replace ho4177 := cond_t hb4183 ho4177
          refine run_seq ?_
          refine run_region rfl ?_
          refine ox rfl rfl rfl rfl (ex_assign rfl rfl) ?_
          refine ox rfl rfl rfl rfl (ex_assign rfl rfl) ?_
          refine ops_nil (at_then ?_)
          refine run_ret ?_
          refine at_then_ret ?_
          refine at_then_ret ?_
          replace HM := HM.empty kMember 38 none
          replace HM := (HM.front 1 rfl rfl).drop
          replace HM := (HM.front 1 rfl rfl).drop
          have hR := Option.some.inj ho4177
          subst hR
          have hT := thn_inl H
          have hR := Option.some.inj hT
          subst hR
          exact at_ret2 rfl rfl rfl ⟨_, rfl, _, rfl, HM⟩
        · replace ho4177 := cond_f hb4183 ho4177
          refine run_skip ?_
          refine at_then ?_
          obtain ⟨t4185, h4186, ho4177⟩ := bind_some ho4177
          refine run_region rfl ?_
          refine ox rfl rfl rfl rfl (ex_move rfl rfl) ?_
          refine ox rfl rfl rfl rfl (ex_move rfl rfl) ?_
          refine ox rfl rfl rfl rfl (ex_move rfl rfl) ?_
          refine ox rfl rfl rfl rfl (ex_add rfl rfl rfl) ?_
          obtain ⟨F4189, hF4190, hFn4191, hFl4192, HMh4193, hcl4194⟩ := HM.hide (Ms := [own kMember 38 u4140 t4138])
          refine od rfl rfl rfl rfl (does_callk rfl callok111 rfl (slices_Delete_impl_Member.calls (x0 := t4138) (x1 := t4179.1) (x2 := wrap64 (t4179.1 + 1)) (hide_olds _ _) hF4190 hFn4191 hFl4192 h4186)) ?_
          rintro u4187 w4195 ⟨_, rfl, hn⟩
          replace HM : Mem w [] w4195 [own kMember 38 u4187 t4185, box b4126 28 [.int .i64 x1.fKind, .int .i64 x1.fMember, p1_0, p1_1]] := hcl4194 _ _ hn
          refine ox rfl rfl rfl rfl (ex_assign rfl rfl) ?_
          refine ops_nil ?_
          replace HM := HM.front 1 rfl rfl
          exact at_mid (ρ' := [(2, .int .i64 x2), (4, .pointer (some ⟨b4126, 0, none⟩)), (8, u4187)]) ⟨_, _, (Option.some.inj ho4177), rfl, HM⟩ (Sub.cons rfl (Sub.cons rfl (Sub.cons rfl Sub.nil)))
      · replace ho4177 := cond_f hb4178 ho4177
        refine run_skip ?_
        replace HM := HM.front 1 rfl rfl
        exact at_mid (ρ' := [(2, .int .i64 x2), (4, .pointer (some ⟨b4126, 0, none⟩)), (8, u4140)]) ⟨_, _, (Option.some.inj ho4177), rfl, HM⟩ (Sub.cons rfl (Sub.cons rfl (Sub.cons rfl Sub.nil)))
    · rintro _ w4196 ⟨v4173, a4174, rfl, rfl, HM⟩
      replace H := (thn_inr H)
      refine run_seq ?_
      obtain ⟨t4197, h4198, H⟩ := bind_some H
      refine run_region rfl ?_
      refine ox rfl rfl rfl rfl (ex_move rfl rfl) ?_
      refine ox rfl rfl rfl rfl (ex_func rfl rfl) ?_
      replace HM := HM.front 1 rfl rfl
      obtain ⟨F4201, hF4202, hFn4203, hFl4204, HMh4205, hcl4206⟩ := HM.hide (Ms := [own kMember 38 v4173 a4174])
      refine od rfl rfl rfl rfl (does_callk rfl callok112 rfl (slices_DeleteFunc_impl_Member.calls (x0 := a4174) (x1_0 := x1) (hide_olds _ _) hF4202 hFn4203 hFl4204 (HMh4205.box_at 0 rfl) (HMh4205.rd hp1_0) (HMh4205.rd hp1_1) h4198)) ?_
      rintro u4199 w4207 ⟨_, rfl, hn⟩
      replace HM : Mem w [] w4207 [own kMember 38 u4199 t4197, box b4126 28 [.int .i64 x1.fKind, .int .i64 x1.fMember, p1_0, p1_1]] := hcl4206 _ _ hn
      refine ox rfl rfl rfl rfl (ex_assign rfl rfl) ?_
      refine ops_nil (at_then (run_seq ?_))
      refine run_seq ?_
      refine run_region rfl ?_
      refine ox rfl rfl rfl rfl (ex_fieldAddr (off' := 0) rfl rfl Try.underlying28 rfl tsz2 rfl) ?_
      refine ox rfl rfl rfl rfl (ex_load1 rfl rfl Try.underlying2 rfl ((HM.box_at 1 rfl) 0 _ rfl)) ?_
      refine ox rfl rfl rfl rfl (ex_neq rfl rfl rfl) ?_
      refine ops_nil (at_then ?_)
      refine run_cond (b := (x1.fKind != 1)) rfl (fun hb4209 => ?_) (fun hb4209 => ?_)
      · replace H := cond_t hb4209 H
        refine run_seq ?_
        refine run_region rfl ?_
        refine ox rfl rfl rfl rfl (ex_move rfl rfl) ?_
        refine ox rfl rfl rfl rfl (ex_assign rfl rfl) ?_
        refine ox rfl rfl rfl rfl (ex_assign rfl rfl) ?_
        refine ops_nil (at_then ?_)
        refine run_ret ?_
        refine at_then_ret ?_
        replace HM := (HM.front 1 rfl rfl).drop
        have hR := Option.some.inj H
        subst hR
        exact at_ret2 rfl rfl rfl ⟨_, rfl, _, rfl, HM⟩
      · replace H := cond_f hb4209 H
        refine run_skip ?_
        refine at_then ?_
        refine run_seq ?_
        refine run_region rfl ?_
        refine ox rfl rfl rfl rfl (ex_move rfl rfl) ?_
        refine ox rfl rfl rfl rfl (ex_build (cells := #[(.int .i64 x2), (.int .i64 0)]) rfl rfl (by kernel_rfl)) ?_
        refine od rfl rfl rfl rfl (does_alloc (cs := [.int .i64 0, .int .i64 0]) rfl tz36 rfl HM) ?_
        rintro _ w4213 ⟨b4210, rfl, HM⟩
        refine odS rfl rfl rfl (does_store (vs := [.int .i64 x2, .int .i64 0]) (cs' := [.int .i64 x2, .int .i64 0]) rfl rfl rfl rfl tsz36 (Ones.int (Ones.int Ones.nil)) rfl rfl HM) ?_
        rintro w4214 HM
        refine ops_nil (at_then (run_seq ?_))
        obtain ⟨t4215, h4216, H⟩ := bind_some H
        refine run_region rfl ?_
        refine ox rfl rfl rfl rfl (ex_move rfl rfl) ?_
        refine ox rfl rfl rfl rfl (ex_fieldAddr (off' := 1) rfl rfl Try.underlying28 rfl tsz2 rfl) ?_
        refine ox rfl rfl rfl rfl (ex_load1 rfl rfl Try.underlying2 rfl ((HM.box_at 2 rfl) 1 _ rfl)) ?_
        refine od rfl rfl rfl rfl (does_callk rfl callok60 rfl (impl_findMember.calls (x0 := t4197) (x1 := x1.fMember) (HM.own_rd 1 rfl) h4216)) ?_
        rintro _ w4217 ⟨rfl, hn⟩
        replace HM : Mem w [] w4217 [box b4210 36 [.int .i64 x2, .int .i64 0], own kMember 38 u4199 t4197, box b4126 28 [.int .i64 x1.fKind, .int .i64 x1.fMember, p1_0, p1_1]] := HM.call hn
        refine ox rfl rfl rfl rfl (ex_move rfl rfl) ?_
        refine ox rfl rfl rfl rfl (ex_extract rfl rfl rfl) ?_
        refine ox rfl rfl rfl rfl (ex_extract rfl rfl rfl) ?_
        refine ox rfl rfl rfl rfl (ex_assign rfl rfl) ?_
        refine ox rfl rfl rfl rfl (ex_assign rfl rfl) ?_
        refine ops_nil (at_then (run_seq ?_))
        refine run_block ?_
        refine run_seq ?_
        obtain ⟨t4222, h4223, H⟩ := bind_some H
        refine run_meet (fun ρ_ w_ => ρ_ = [(4, .pointer (some ⟨b4126, 0, none⟩)), (8, u4199), (11, .pointer (some ⟨b4210, 0, none⟩)), (12, .int .i64 t4215.1), (52, .bool (t4215.2 || t4222))] ∧ Mem w [] w_ [box b4126 28 [.int .i64 x1.fKind, .int .i64 x1.fMember, p1_0, p1_1], own kMember 38 u4199 t4197, box b4210 36 [.int .i64 x2, .int .i64 0]]) ?_ ?_
        · skip
          refine run_region rfl ?_
          refine ox rfl rfl rfl rfl (ex_move rfl rfl) ?_
          refine ox rfl rfl rfl rfl (ex_move rfl rfl) ?_
          refine bool_cases t4215.2 (fun hg4224 => ?_) (fun hg4224 => ?_)
          · skip
            refine ops_off rfl (guard_off rfl rfl rfl hg4224) rfl rfl ?_
            refine ops_off rfl (guard_off rfl rfl rfl hg4224) rfl rfl ?_
            refine ops_off rfl (guard_off rfl rfl rfl hg4224) rfl rfl ?_
            have hg4225 : (t4215.2 || t4222) = true := by simp only [hg4224, Bool.and_true, Bool.true_and, Bool.and_false, Bool.false_and, Bool.or_true, Bool.true_or, Bool.or_false, Bool.false_or, Bool.not_true, Bool.not_false, Bool.not_not]
            refine ops_ex (v := .bool (t4215.2 || t4222)) rfl (guard_none rfl) rfl rfl (ex_por_t rfl rfl hg4224) ?_
            refine ox rfl rfl rfl rfl (ex_assign rfl rfl) ?_
            refine ops_nil ?_
            replace HM := HM.front 1 rfl rfl
            replace HM := HM.front 2 rfl rfl
            exact at_meet [(4, .pointer (some ⟨b4126, 0, none⟩)), (8, u4199), (11, .pointer (some ⟨b4210, 0, none⟩)), (12, .int .i64 t4215.1), (52, .bool (t4215.2 || t4222))] ⟨rfl, HM⟩ (Sub.cons rfl (Sub.cons rfl (Sub.cons rfl (Sub.cons rfl (Sub.cons rfl Sub.nil)))))
          · skip
            refine ops_ex rfl (guard_on rfl rfl rfl hg4224) rfl rfl (ex_move rfl rfl) ?_
            refine ops_ex rfl (guard_on rfl rfl rfl hg4224) rfl rfl (ex_func rfl rfl) ?_
            refine ops_does rfl (guard_on rfl rfl rfl hg4224) rfl rfl (does_callk rfl callok64 rfl (slices_ContainsFunc_impl_Member_v2.calls (x0 := t4197) (x1_0 := (⟨x2, 0⟩ : Ref)) (HM.own_rd 1 rfl) (HM.box_at 0 rfl) (cond_t (not_mk hg4224) h4223))) ?_
            rintro _ w4226 ⟨rfl, hn⟩
            replace HM : Mem w [] w4226 [box b4210 36 [.int .i64 x2, .int .i64 0], own kMember 38 u4199 t4197, box b4126 28 [.int .i64 x1.fKind, .int .i64 x1.fMember, p1_0, p1_1]] := HM.call hn
            refine ops_ex (v := .bool (t4215.2 || t4222)) rfl (guard_none rfl) rfl rfl (ex_por_f rfl rfl hg4224 rfl) ?_
            refine ox rfl rfl rfl rfl (ex_assign rfl rfl) ?_
            refine ops_nil ?_
            replace HM := HM.front 1 rfl rfl
            replace HM := HM.front 2 rfl rfl
            exact at_meet [(4, .pointer (some ⟨b4126, 0, none⟩)), (8, u4199), (11, .pointer (some ⟨b4210, 0, none⟩)), (12, .int .i64 t4215.1), (52, .bool (t4215.2 || t4222))] ⟨rfl, HM⟩ (Sub.cons rfl (Sub.cons rfl (Sub.cons rfl (Sub.cons rfl (Sub.cons rfl Sub.nil)))))
        · rintro _ w4227 ⟨rfl, HM⟩
          refine at_then ?_
          refine run_cond (b := (t4215.2 || t4222)) rfl (fun hb4228 => ?_) (fun hb4228 => ?_)
          · replace H := cond_t hb4228 H
            refine run_seq ?_
            refine run_region rfl ?_
            refine ox rfl rfl rfl rfl (ex_assign rfl rfl) ?_
            refine ox rfl rfl rfl rfl (ex_assign rfl rfl) ?_
            refine ops_nil (at_then ?_)
            refine run_ret ?_
            refine at_block_ret ?_
            refine at_then_ret ?_
            replace HM := HM.empty kMember 38 none
            replace HM := (HM.front 1 rfl rfl).drop
            replace HM := (HM.front 1 rfl rfl).drop
            replace HM := (HM.front 1 rfl rfl).drop
            have hR := Option.some.inj H
            subst hR
            exact at_ret2 rfl rfl rfl ⟨_, rfl, _, rfl, HM⟩
          · replace H := cond_f hb4228 H
            refine run_seq ?_
            refine run_region rfl ?_
            refine ox rfl rfl rfl rfl (ex_move rfl rfl) ?_
            refine ox rfl rfl rfl rfl (ex_len (d := kMember) (xs := t4197) rfl rfl Try.underlying24 (HM.own_rd 1 rfl)) ?_
            refine ox rfl rfl rfl rfl (ex_eql rfl rfl rfl) ?_
            refine ox rfl rfl rfl rfl (ex_assign rfl rfl) ?_
            refine ops_nil (at_then ?_)
            refine run_cond (b := ((t4197.length : Int) == 8)) rfl (fun hb4230 => ?_) (fun hb4230 => ?_)
            · replace H := cond_t hb4230 H
              refine run_seq ?_
              refine run_region rfl ?_
              refine ox rfl rfl rfl rfl (ex_assign rfl rfl) ?_
              refine ox rfl rfl rfl rfl (ex_assign rfl rfl) ?_
              refine ops_nil (at_then ?_)
              refine run_ret ?_
              refine at_block_ret ?_
              refine at_then_ret ?_
              replace HM := HM.empty kMember 38 none
              replace HM := (HM.front 1 rfl rfl).drop
              replace HM := (HM.front 1 rfl rfl).drop
              replace HM := (HM.front 1 rfl rfl).drop
              have hR := Option.some.inj H
              subst hR
              exact at_ret2 rfl rfl rfl ⟨_, rfl, _, rfl, HM⟩
            · replace H := cond_f hb4230 H
              refine run_skip ?_
              refine at_block ?_
              refine at_then ?_
              refine run_seq ?_
              obtain ⟨t4235, h4236, H⟩ := bind_some H
              refine run_region rfl ?_
              refine ox rfl rfl rfl rfl (ex_move rfl rfl) ?_
              refine ox rfl rfl rfl rfl (ex_move rfl rfl) ?_
              refine ox rfl rfl rfl rfl (ex_fieldAddr (off' := 1) rfl rfl Try.underlying28 rfl tsz2 rfl) ?_
              refine ox rfl rfl rfl rfl (ex_load1 rfl rfl Try.underlying2 rfl ((HM.box_at 0 rfl) 1 _ rfl)) ?_
              refine ox rfl rfl rfl rfl (ex_loadN (cs := [(.int .i64 x2), (.int .i64 0)]) rfl rfl Try.underlying36 rfl tsz36 rfl ((HM.box_at 2 rfl).sub 0 2 rfl)) ?_
              refine ox rfl rfl rfl rfl (ex_build (cells := #[(.int .i64 x1.fMember), (.int .i64 x2), (.int .i64 0)]) rfl rfl (by kernel_rfl)) ?_
              refine od rfl rfl rfl rfl (does_lit (e := 38) (cs := [.int .i64 x1.fMember, .int .i64 x2, .int .i64 0]) (xs := ([(⟨x1.fMember, (⟨x2, 0⟩ : Ref)⟩ : Member)] : List Member)) kMember rfl rfl (fun _ => by kernel_rfl) rfl rfl (fun _ _ h => by have h' : _ = [] := h; subst h'; exact (Elems.cons (d := kMember) (x := (⟨x1.fMember, (⟨x2, 0⟩ : Ref)⟩ : Member)) (f := []) ⟨rfl, rfl⟩ .nil)) HM.emp) ?_
              rintro v4232 w4245 HM
              replace HM := HM.front 2 rfl rfl
              obtain ⟨F4239, hF4240, hFn4241, hFl4242, HMh4243, hcl4244⟩ := HM.hide (Ms := [own kMember 38 u4199 t4197, own kMember 38 v4232 ([(⟨x1.fMember, (⟨x2, 0⟩ : Ref)⟩ : Member)] : List Member)])
              refine od rfl rfl rfl rfl (does_callk rfl callok115 rfl (slices_Insert_Member.calls (x0 := t4197) (x1 := t4215.1) (x2 := ([(⟨x1.fMember, (⟨x2, 0⟩ : Ref)⟩ : Member)] : List Member)) (hide_olds _ _) hF4240 hFn4241 hFl4242 h4236)) ?_
              rintro u4237 w4246 ⟨_, rfl, hn⟩
              replace HM : Mem w [] w4246 [own kMember 38 u4237 t4235, box b4126 28 [.int .i64 x1.fKind, .int .i64 x1.fMember, p1_0, p1_1], box b4210 36 [.int .i64 x2, .int .i64 0]] := hcl4244 _ _ hn
              refine ox rfl rfl rfl rfl (ex_assign rfl rfl) ?_
              refine ox rfl rfl rfl rfl (ex_assign rfl rfl) ?_
              refine ops_nil (at_then ?_)
              refine run_ret ?_
              replace HM := (HM.front 1 rfl rfl).drop
              replace HM := (HM.front 1 rfl rfl).drop
              have hR := Option.some.inj H
              subst hR
              exact at_ret2 rfl rfl rfl ⟨_, rfl, _, rfl, HM⟩

def impl_TakeMembers.f (k : Nat) (x0 : List Member) (x1 : Tx) (x2 : Int) : Option MembersResult := ((impl_MembersFault.f k x0).bind fun t4262 => (bif (t4262 != 0) then some (⟨t4262, ([] : List Member)⟩ : MembersResult) else ((impl_TxFault.f k x1).bind fun t4271 => (bif (t4271 != 0) then some (⟨t4271, ([] : List Member)⟩ : MembersResult) else ((impl_takeMembers.f k x0 x1 x2).bind fun t4277 => some (⟨t4277.2, t4277.1⟩ : MembersResult))))))
theorem impl_TakeMembers.calls {k : Nat} {x0 : List Member} {x1 : Tx} {x2 : Int} {p0 : Value} {p1_0 : Value} {p1_1 : Value} {w : World} (hp0 : RdS kMember w p0 x0) (hp1_0 : RdS kRef w p1_0 x1.fIns) (hp1_1 : RdS kOut w p1_1 x1.fOuts) {r : MembersResult} (H : impl_TakeMembers.f k x0 x1 x2 = some r) :
    Calls Try.prog 9 ([p0, .agg #[(.int .i64 x1.fKind), (.int .i64 x1.fMember), p1_0, p1_1], .int .i64 x2] : List Value).toArray w (fun e w_ => ∃ v, e = .returned v ∧ ∃ u0 : Value, v = (.agg #[.int .i64 r.fCode, u0]) ∧ Mem w [] w_ [own kMember 38 u0 r.fMembers]) := by
  have HM := Mem.start w
  refine calls_run (N := 33) Try.func9 rfl rfl rfl rfl ?_
  unfold impl_TakeMembers.f at H
  refine run_seq ?_
  refine run_region rfl ?_
  refine od rfl rfl rfl rfl (does_box (cs := [.int .i64 x1.fKind, .int .i64 x1.fMember, p1_0, p1_1]) rfl rfl rfl HM) ?_
  rintro _ w4257 ⟨b4251, rfl, HM⟩
  refine od rfl rfl rfl rfl (does_alloc (cs := [.int .i64 0, .slice none 0 0]) rfl tz32 rfl HM) ?_
  rintro _ w4258 ⟨b4254, rfl, HM⟩
  refine ops_nil (at_then (run_seq ?_))
  refine run_seq ?_
  obtain ⟨t4262, h4263, H⟩ := bind_some H
  refine run_region rfl ?_
  refine ox rfl rfl rfl rfl (ex_move rfl rfl) ?_
  refine od rfl rfl rfl rfl (does_callk rfl callok13 rfl (impl_MembersFault.calls (x0 := x0) (HM.rd hp0) h4263)) ?_
  rintro _ w4264 ⟨rfl, hn⟩
  replace HM : Mem w [] w4264 [box b4254 32 [.int .i64 0, .slice none 0 0], box b4251 28 [.int .i64 x1.fKind, .int .i64 x1.fMember, p1_0, p1_1]] := HM.call hn
  refine ox rfl rfl rfl rfl (ex_assign rfl rfl) ?_
  refine ops_nil (at_then (run_seq ?_))
  refine run_region rfl ?_
  refine ox rfl rfl rfl rfl (ex_move rfl rfl) ?_
  refine ox rfl rfl rfl rfl (ex_neq rfl rfl rfl) ?_
  refine ops_nil (at_then ?_)
  refine run_cond (b := (t4262 != 0)) rfl (fun hb4265 => ?_) (fun hb4265 => ?_)
  · replace H := cond_t hb4265 H
    refine run_seq ?_
    refine run_region rfl ?_
    refine ox rfl rfl rfl rfl (ex_move rfl rfl) ?_
    refine ox rfl rfl rfl rfl (ex_build (cells := #[(.int .i64 t4262), (.slice none 0 0)]) rfl rfl (by kernel_rfl)) ?_
    refine odS rfl rfl rfl (does_store (vs := [.int .i64 t4262, .slice none 0 0]) (cs' := [.int .i64 t4262, .slice none 0 0]) rfl rfl rfl rfl tsz32 (Ones.int (Ones.sl Ones.nil)) rfl rfl HM) ?_
    rintro w4266 HM
    refine ops_nil (at_then ?_)
    refine run_ret ?_
    refine at_then_ret ?_
    replace HM := HM.empty kMember 38 none
    replace HM := (HM.front 2 rfl rfl).drop
    replace HM := HM.front 1 rfl rfl
    have hcb0 := HM.box_at 0 rfl
    replace HM := (HM.front 0 rfl rfl).drop
    have hR := Option.some.inj H
    subst hR
    exact at_retN rfl rfl Try.underlying32 rfl tsz32 rfl hcb0 ⟨_, rfl, _, rfl, HM⟩
  · replace H := cond_f hb4265 H
    refine run_skip ?_
    refine at_then ?_
    refine run_seq ?_
    refine run_seq ?_
    obtain ⟨t4271, h4272, H⟩ := bind_some H
    refine run_region rfl ?_
    refine ox rfl rfl rfl rfl (ex_loadN (cs := [(.int .i64 x1.fKind), (.int .i64 x1.fMember), p1_0, p1_1]) rfl rfl Try.underlying28 rfl tsz28 rfl ((HM.box_at 1 rfl).sub 0 4 rfl)) ?_
    refine od rfl rfl rfl rfl (does_callk rfl callok54 rfl (impl_TxFault.calls (x0 := x1) (HM.rd hp1_0) (HM.rd hp1_1) h4272)) ?_
    rintro _ w4273 ⟨rfl, hn⟩
    replace HM : Mem w [] w4273 [box b4254 32 [.int .i64 0, .slice none 0 0], box b4251 28 [.int .i64 x1.fKind, .int .i64 x1.fMember, p1_0, p1_1]] := HM.call hn
    refine ox rfl rfl rfl rfl (ex_assign rfl rfl) ?_
    refine ops_nil (at_then (run_seq ?_))
    refine run_region rfl ?_
    refine ox rfl rfl rfl rfl (ex_move rfl rfl) ?_
    refine ox rfl rfl rfl rfl (ex_neq rfl rfl rfl) ?_
    refine ops_nil (at_then ?_)
    refine run_cond (b := (t4271 != 0)) rfl (fun hb4274 => ?_) (fun hb4274 => ?_)
    · replace H := cond_t hb4274 H
      refine run_seq ?_
      refine run_region rfl ?_
      refine ox rfl rfl rfl rfl (ex_move rfl rfl) ?_
      refine ox rfl rfl rfl rfl (ex_build (cells := #[(.int .i64 t4271), (.slice none 0 0)]) rfl rfl (by kernel_rfl)) ?_
      refine odS rfl rfl rfl (does_store (vs := [.int .i64 t4271, .slice none 0 0]) (cs' := [.int .i64 t4271, .slice none 0 0]) rfl rfl rfl rfl tsz32 (Ones.int (Ones.sl Ones.nil)) rfl rfl HM) ?_
      rintro w4275 HM
      refine ops_nil (at_then ?_)
      refine run_ret ?_
      refine at_then_ret ?_
      replace HM := HM.empty kMember 38 none
      replace HM := (HM.front 2 rfl rfl).drop
      replace HM := HM.front 1 rfl rfl
      have hcb0 := HM.box_at 0 rfl
      replace HM := (HM.front 0 rfl rfl).drop
      have hR := Option.some.inj H
      subst hR
      exact at_retN rfl rfl Try.underlying32 rfl tsz32 rfl hcb0 ⟨_, rfl, _, rfl, HM⟩
    · replace H := cond_f hb4274 H
      refine run_skip ?_
      refine at_then ?_
      refine run_seq ?_
      obtain ⟨t4277, h4278, H⟩ := bind_some H
      refine run_region rfl ?_
      refine ox rfl rfl rfl rfl (ex_move rfl rfl) ?_
      refine ox rfl rfl rfl rfl (ex_loadN (cs := [(.int .i64 x1.fKind), (.int .i64 x1.fMember), p1_0, p1_1]) rfl rfl Try.underlying28 rfl tsz28 rfl ((HM.box_at 1 rfl).sub 0 4 rfl)) ?_
      refine ox rfl rfl rfl rfl (ex_move rfl rfl) ?_
      refine od rfl rfl rfl rfl (does_callk rfl callok55 rfl (impl_takeMembers.calls (x0 := x0) (x1 := x1) (x2 := x2) (HM.rd hp0) (HM.rd hp1_0) (HM.rd hp1_1) h4278)) ?_
      rintro _ w4281 ⟨u4279, rfl, hn⟩
      replace HM : Mem w [] w4281 [own kMember 38 u4279 t4277.1, box b4254 32 [.int .i64 0, .slice none 0 0], box b4251 28 [.int .i64 x1.fKind, .int .i64 x1.fMember, p1_0, p1_1]] := HM.call hn
      refine ox rfl rfl rfl rfl (ex_move rfl rfl) ?_
      refine ox rfl rfl rfl rfl (ex_extract rfl rfl rfl) ?_
      refine ox rfl rfl rfl rfl (ex_extract rfl rfl rfl) ?_
      refine ox rfl rfl rfl rfl (ex_assign rfl rfl) ?_
      refine ox rfl rfl rfl rfl (ex_assign rfl rfl) ?_
      refine ops_nil (at_then (run_seq ?_))
      refine run_region rfl ?_
      refine ox rfl rfl rfl rfl (ex_move rfl rfl) ?_
      refine ox rfl rfl rfl rfl (ex_move rfl rfl) ?_
      refine ox rfl rfl rfl rfl (ex_build1 (fun u4279 => [(0, .int .i64 t4277.2), (1, u4279)]) (fun u4279 => #[.int .i64 t4277.2, u4279]) rfl rfl (fun _ _ _ => by kernel_rfl) (HM.own_rd 0 rfl).isSl) ?_
      replace HM := HM.front 1 rfl rfl
      refine odS rfl rfl rfl (does_store (vs := [.int .i64 t4277.2, u4279]) (cs' := [.int .i64 t4277.2, u4279]) rfl rfl rfl rfl tsz32 (Ones.int (Ones.rd (HM.own_rd 1 rfl) Ones.nil)) rfl rfl HM) ?_
      rintro w4282 HM
      refine ops_nil (at_then ?_)
      refine run_ret ?_
      replace HM := (HM.front 2 rfl rfl).drop
      have hcb0 := HM.box_at 0 rfl
      replace HM := (HM.front 0 rfl rfl).drop
      have hR := Option.some.inj H
      subst hR
      exact at_retN rfl rfl Try.underlying32 rfl tsz32 rfl hcb0 ⟨_, rfl, _, rfl, HM⟩

def laws_eqRef.f (k : Nat) (x0 : Ref) (x1 : Ref) : Option Bool := (bif (x0.fTx != x1.fTx) then some false else (bif (x0.fAt != x1.fAt) then some false else some true))
theorem laws_eqRef.calls {k : Nat} {x0 : Ref} {x1 : Ref}  {w : World}  {r : Bool} (H : laws_eqRef.f k x0 x1 = some r) :
    Calls Try.prog 126 ([.agg #[(.int .i64 x0.fTx), (.int .i64 x0.fAt)], .agg #[(.int .i64 x1.fTx), (.int .i64 x1.fAt)]] : List Value).toArray w (fun e w_ => ∃ v, e = .returned v ∧ v = (.bool r) ∧ Mem w [] w_ []) := by
  have HM := Mem.start w
  refine calls_run (N := 15) Try.func126 rfl rfl rfl rfl ?_
  unfold laws_eqRef.f at H
  refine run_seq ?_
  refine run_region rfl ?_
  refine od rfl rfl rfl rfl (does_box (cs := [.int .i64 x0.fTx, .int .i64 x0.fAt]) rfl rfl rfl HM) ?_
  rintro _ w4328 ⟨b4322, rfl, HM⟩
  refine od rfl rfl rfl rfl (does_box (cs := [.int .i64 x1.fTx, .int .i64 x1.fAt]) rfl rfl rfl HM) ?_
  rintro _ w4329 ⟨b4325, rfl, HM⟩
  refine ox rfl rfl rfl rfl (ex_assign rfl rfl) ?_
  refine ops_nil (at_then (run_seq ?_))
  refine run_seq ?_
  refine run_region rfl ?_
  refine ox rfl rfl rfl rfl (ex_fieldAddr (off' := 0) rfl rfl Try.underlying36 rfl tsz2 rfl) ?_
  refine ox rfl rfl rfl rfl (ex_load1 rfl rfl Try.underlying2 rfl ((HM.box_at 1 rfl) 0 _ rfl)) ?_
  refine ox rfl rfl rfl rfl (ex_fieldAddr (off' := 0) rfl rfl Try.underlying36 rfl tsz2 rfl) ?_
  refine ox rfl rfl rfl rfl (ex_load1 rfl rfl Try.underlying2 rfl ((HM.box_at 0 rfl) 0 _ rfl)) ?_
  refine ox rfl rfl rfl rfl (ex_neq rfl rfl rfl) ?_
  refine ops_nil (at_then ?_)
  refine run_cond (b := (x0.fTx != x1.fTx)) rfl (fun hb4331 => ?_) (fun hb4331 => ?_)
  · replace H := cond_t hb4331 H
    refine run_seq ?_
    refine run_region rfl ?_
    refine ox rfl rfl rfl rfl (ex_assign rfl rfl) ?_
    refine ops_nil (at_then ?_)
    refine run_ret ?_
    refine at_then_ret ?_
    replace HM := (HM.front 0 rfl rfl).drop
    replace HM := (HM.front 0 rfl rfl).drop
    have hR := Option.some.inj H
    subst hR
    exact at_ret1 rfl rfl ⟨_, rfl, rfl, HM⟩
  · replace H := cond_f hb4331 H
    refine run_skip ?_
    refine at_then ?_
    refine run_seq ?_
    refine run_seq ?_
    refine run_region rfl ?_
    refine ox rfl rfl rfl rfl (ex_fieldAddr (off' := 1) rfl rfl Try.underlying36 rfl tsz2 rfl) ?_
    refine ox rfl rfl rfl rfl (ex_load1 rfl rfl Try.underlying2 rfl ((HM.box_at 1 rfl) 1 _ rfl)) ?_
    refine ox rfl rfl rfl rfl (ex_fieldAddr (off' := 1) rfl rfl Try.underlying36 rfl tsz2 rfl) ?_
    refine ox rfl rfl rfl rfl (ex_load1 rfl rfl Try.underlying2 rfl ((HM.box_at 0 rfl) 1 _ rfl)) ?_
    refine ox rfl rfl rfl rfl (ex_neq rfl rfl rfl) ?_
    refine ops_nil (at_then ?_)
    refine run_cond (b := (x0.fAt != x1.fAt)) rfl (fun hb4332 => ?_) (fun hb4332 => ?_)
    · replace H := cond_t hb4332 H
      refine run_seq ?_
      refine run_region rfl ?_
      refine ox rfl rfl rfl rfl (ex_assign rfl rfl) ?_
      refine ops_nil (at_then ?_)
      refine run_ret ?_
      refine at_then_ret ?_
      replace HM := (HM.front 0 rfl rfl).drop
      replace HM := (HM.front 0 rfl rfl).drop
      have hR := Option.some.inj H
      subst hR
      exact at_ret1 rfl rfl ⟨_, rfl, rfl, HM⟩
    · replace H := cond_f hb4332 H
      refine run_skip ?_
      refine at_then ?_
      refine run_seq ?_
      refine run_region rfl ?_
      refine ox rfl rfl rfl rfl (ex_assign rfl rfl) ?_
      refine ops_nil (at_then ?_)
      refine run_ret ?_
      replace HM := (HM.front 0 rfl rfl).drop
      replace HM := (HM.front 0 rfl rfl).drop
      have hR := Option.some.inj H
      subst hR
      exact at_ret1 rfl rfl ⟨_, rfl, rfl, HM⟩

def laws_eqMember.f (k : Nat) (x0 : Member) (x1 : Member) : Option Bool := (bif (x0.fKey != x1.fKey) then some false else ((laws_eqRef.f k x0.fRef x1.fRef).bind fun t4346 => (bif !t4346 then some false else some true)))
theorem laws_eqMember.calls {k : Nat} {x0 : Member} {x1 : Member}  {w : World}  {r : Bool} (H : laws_eqMember.f k x0 x1 = some r) :
    Calls Try.prog 70 ([.agg #[(.int .i64 x0.fKey), (.int .i64 x0.fRef.fTx), (.int .i64 x0.fRef.fAt)], .agg #[(.int .i64 x1.fKey), (.int .i64 x1.fRef.fTx), (.int .i64 x1.fRef.fAt)]] : List Value).toArray w (fun e w_ => ∃ v, e = .returned v ∧ v = (.bool r) ∧ Mem w [] w_ []) := by
  have HM := Mem.start w
  refine calls_run (N := 16) Try.func70 rfl rfl rfl rfl ?_
  unfold laws_eqMember.f at H
  refine run_seq ?_
  refine run_region rfl ?_
  refine od rfl rfl rfl rfl (does_box (cs := [.int .i64 x0.fKey, .int .i64 x0.fRef.fTx, .int .i64 x0.fRef.fAt]) rfl rfl rfl HM) ?_
  rintro _ w4342 ⟨b4336, rfl, HM⟩
  refine od rfl rfl rfl rfl (does_box (cs := [.int .i64 x1.fKey, .int .i64 x1.fRef.fTx, .int .i64 x1.fRef.fAt]) rfl rfl rfl HM) ?_
  rintro _ w4343 ⟨b4339, rfl, HM⟩
  refine ox rfl rfl rfl rfl (ex_assign rfl rfl) ?_
  refine ops_nil (at_then (run_seq ?_))
  refine run_seq ?_
  refine run_region rfl ?_
  refine ox rfl rfl rfl rfl (ex_fieldAddr (off' := 0) rfl rfl Try.underlying38 rfl tsz2 rfl) ?_
  refine ox rfl rfl rfl rfl (ex_load1 rfl rfl Try.underlying2 rfl ((HM.box_at 1 rfl) 0 _ rfl)) ?_
  refine ox rfl rfl rfl rfl (ex_fieldAddr (off' := 0) rfl rfl Try.underlying38 rfl tsz2 rfl) ?_
  refine ox rfl rfl rfl rfl (ex_load1 rfl rfl Try.underlying2 rfl ((HM.box_at 0 rfl) 0 _ rfl)) ?_
  refine ox rfl rfl rfl rfl (ex_neq rfl rfl rfl) ?_
  refine ops_nil (at_then ?_)
  refine run_cond (b := (x0.fKey != x1.fKey)) rfl (fun hb4345 => ?_) (fun hb4345 => ?_)
  · replace H := cond_t hb4345 H
    refine run_seq ?_
    refine run_region rfl ?_
    refine ox rfl rfl rfl rfl (ex_assign rfl rfl) ?_
    refine ops_nil (at_then ?_)
    refine run_ret ?_
    refine at_then_ret ?_
    replace HM := (HM.front 0 rfl rfl).drop
    replace HM := (HM.front 0 rfl rfl).drop
    have hR := Option.some.inj H
    subst hR
    exact at_ret1 rfl rfl ⟨_, rfl, rfl, HM⟩
  · replace H := cond_f hb4345 H
    refine run_skip ?_
    refine at_then ?_
    refine run_seq ?_
    refine run_seq ?_
    obtain ⟨t4346, h4347, H⟩ := bind_some H
    refine run_region rfl ?_
    refine ox rfl rfl rfl rfl (ex_fieldAddr (off' := 1) rfl rfl Try.underlying38 rfl tsz36 rfl) ?_
    refine ox rfl rfl rfl rfl (ex_loadN (cs := [(.int .i64 x0.fRef.fTx), (.int .i64 x0.fRef.fAt)]) rfl rfl Try.underlying36 rfl tsz36 rfl ((HM.box_at 1 rfl).sub 1 2 rfl)) ?_
    refine ox rfl rfl rfl rfl (ex_fieldAddr (off' := 1) rfl rfl Try.underlying38 rfl tsz36 rfl) ?_
    refine ox rfl rfl rfl rfl (ex_loadN (cs := [(.int .i64 x1.fRef.fTx), (.int .i64 x1.fRef.fAt)]) rfl rfl Try.underlying36 rfl tsz36 rfl ((HM.box_at 0 rfl).sub 1 2 rfl)) ?_
    refine od rfl rfl rfl rfl (does_callk rfl callok126 rfl (laws_eqRef.calls (x0 := x0.fRef) (x1 := x1.fRef) h4347)) ?_
    rintro _ w4348 ⟨rfl, hn⟩
    replace HM : Mem w [] w4348 [box b4339 38 [.int .i64 x1.fKey, .int .i64 x1.fRef.fTx, .int .i64 x1.fRef.fAt], box b4336 38 [.int .i64 x0.fKey, .int .i64 x0.fRef.fTx, .int .i64 x0.fRef.fAt]] := HM.call hn
    refine ox rfl rfl rfl rfl (ex_not rfl rfl) ?_
    refine ops_nil (at_then ?_)
    refine run_cond (b := !t4346) rfl (fun hb4349 => ?_) (fun hb4349 => ?_)
    · replace H := cond_t hb4349 H
      refine run_seq ?_
      refine run_region rfl ?_
      refine ox rfl rfl rfl rfl (ex_assign rfl rfl) ?_
      refine ops_nil (at_then ?_)
      refine run_ret ?_
      refine at_then_ret ?_
      replace HM := (HM.front 0 rfl rfl).drop
      replace HM := (HM.front 0 rfl rfl).drop
      have hR := Option.some.inj H
      subst hR
      exact at_ret1 rfl rfl ⟨_, rfl, rfl, HM⟩
    · replace H := cond_f hb4349 H
      refine run_skip ?_
      refine at_then ?_
      refine run_seq ?_
      refine run_region rfl ?_
      refine ox rfl rfl rfl rfl (ex_assign rfl rfl) ?_
      refine ops_nil (at_then ?_)
      refine run_ret ?_
      replace HM := (HM.front 0 rfl rfl).drop
      replace HM := (HM.front 0 rfl rfl).drop
      have hR := Option.some.inj H
      subst hR
      exact at_ret1 rfl rfl ⟨_, rfl, rfl, HM⟩

def laws_eqMemberS.l0 (x0 : List Member) (x1 : List Member) : Nat → Int → Option (Bool ⊕ Unit)
  | 0, _ => none
  | k + 1, a4409 => (bif (decide (a4409 < (x0.length : Int))) then (chk (idxOk a4409 x0.length) (chk (idxOk a4409 x1.length) ((laws_eqMember.f k (gt x0 a4409) (gt x1 a4409)).bind fun t4425 => (bif !t4425 then some (.inl false) else laws_eqMemberS.l0 x0 x1 k (wrap64 (a4409 + 1)))))) else some (.inr ()))
theorem laws_eqMemberS.l0_z (x0 : List Member) (x1 : List Member) (a4409 : Int) : laws_eqMemberS.l0 x0 x1 0 a4409 = none := rfl
theorem laws_eqMemberS.l0_s (x0 : List Member) (x1 : List Member) (k : Nat) (a4409 : Int) : laws_eqMemberS.l0 x0 x1 (k + 1) a4409 = (bif (decide (a4409 < (x0.length : Int))) then (chk (idxOk a4409 x0.length) (chk (idxOk a4409 x1.length) ((laws_eqMember.f k (gt x0 a4409) (gt x1 a4409)).bind fun t4425 => (bif !t4425 then some (.inl false) else laws_eqMemberS.l0 x0 x1 k (wrap64 (a4409 + 1)))))) else some (.inr ())) := rfl
def laws_eqMemberS.f (k : Nat) (x0 : List Member) (x1 : List Member) : Option Bool := (bif ((x0.length : Int) != (x1.length : Int)) then some false else ((laws_eqMemberS.l0 x0 x1 k 0).bind fun o4399 => thn o4399 (fun r => some r) (fun _ => some true)))
theorem laws_eqMemberS.calls {k : Nat} {x0 : List Member} {x1 : List Member} {p0 : Value} {p1 : Value} {w : World} (hp0 : RdS kMember w p0 x0) (hp1 : RdS kMember w p1 x1) {r : Bool} (H : laws_eqMemberS.f k x0 x1 = some r) :
    Calls Try.prog 20 ([p0, p1] : List Value).toArray w (fun e w_ => ∃ v, e = .returned v ∧ v = (.bool r) ∧ Mem w [] w_ []) := by
  have HM := Mem.start w
  refine calls_run (N := 27) Try.func20 rfl rfl rfl rfl ?_
  unfold laws_eqMemberS.f at H
  refine run_seq ?_
  refine run_region rfl ?_
  refine ox rfl rfl rfl rfl (ex_assign rfl rfl) ?_
  refine ops_nil (at_then (run_seq ?_))
  refine run_seq ?_
  refine run_region rfl ?_
  refine ox rfl rfl rfl rfl (ex_move rfl rfl) ?_
  refine ox rfl rfl rfl rfl (ex_len (d := kMember) (xs := x0) rfl rfl Try.underlying24 hp0) ?_
  refine ox rfl rfl rfl rfl (ex_move rfl rfl) ?_
  refine ox rfl rfl rfl rfl (ex_len (d := kMember) (xs := x1) rfl rfl Try.underlying24 hp1) ?_
  refine ox rfl rfl rfl rfl (ex_neq rfl rfl rfl) ?_
  refine ops_nil (at_then ?_)
  refine run_cond (b := ((x0.length : Int) != (x1.length : Int))) rfl (fun hb4373 => ?_) (fun hb4373 => ?_)
  · replace H := cond_t hb4373 H
    refine run_seq ?_
    refine run_region rfl ?_
    refine ox rfl rfl rfl rfl (ex_assign rfl rfl) ?_
    refine ops_nil (at_then ?_)
    refine run_ret ?_
    refine at_then_ret ?_
    have hR := Option.some.inj H
    subst hR
    exact at_ret1 rfl rfl ⟨_, rfl, rfl, HM⟩
  · replace H := cond_f hb4373 H
    refine run_skip ?_
    refine at_then ?_
    obtain ⟨o4399, ho4400, H⟩ := bind_some H
    refine run_mid (fun ρ_ w_ => Sum.inr () = o4399 ∧ ρ_ = [] ∧ Mem w [] w_ []) ?_ ?_
    · skip
      refine run_seq ?_
      refine run_region rfl ?_
      refine ox rfl rfl rfl rfl (ex_assign rfl rfl) ?_
      refine ops_nil (at_then ?_)
      refine run_block ?_
      refine run_loop (fun k_ ρ_ w_ => ∃ a4409 : Int, laws_eqMemberS.l0 x0 x1 k_ a4409 = some o4399 ∧ ρ_ = [(0, p0), (1, p1), (5, .int .i64 a4409)] ∧ Mem w [] w_ []) k (ρ1 := [(0, p0), (1, p1), (5, .int .i64 0)]) ⟨_, ho4400, rfl, HM⟩ (Sub.cons rfl (Sub.cons rfl (Sub.cons rfl Sub.nil))) ?_
      clear HM ho4400
      rintro k4418 _ w4419 ⟨a4409, ho4400, rfl, HM⟩
      obtain _ | k4418 := k4418
      · exact nomatch ((laws_eqMemberS.l0_z x0 x1 a4409).symm.trans ho4400)
      replace ho4400 := (laws_eqMemberS.l0_s x0 x1 k4418 a4409).symm.trans ho4400
      refine run_seq ?_
      refine run_seq ?_
      refine run_region rfl ?_
      refine ox rfl rfl rfl rfl (ex_move rfl rfl) ?_
      refine ox rfl rfl rfl rfl (ex_move rfl rfl) ?_
      refine ox rfl rfl rfl rfl (ex_len (d := kMember) (xs := x0) rfl rfl Try.underlying24 hp0) ?_
      refine ox rfl rfl rfl rfl (ex_lss rfl rfl rfl) ?_
      refine ops_nil (at_then ?_)
      refine run_cond (b := (decide (a4409 < (x0.length : Int)))) rfl (fun hb4420 => ?_) (fun hb4420 => ?_)
      · replace ho4400 := cond_t hb4420 ho4400
        refine run_skip ?_
        refine at_then ?_
        refine run_seq ?_
        refine run_block ?_
        refine run_seq ?_
        obtain ⟨e4421, ho4400⟩ := chk_some ho4400
        obtain ⟨e4423, ho4400⟩ := chk_some ho4400
        obtain ⟨t4425, h4426, ho4400⟩ := bind_some ho4400
        refine run_drawf (fun w_ => Mem w [] w_ []) [(0, true), (1, true), (2, true), (3, true), (4, true), (5, true), (6, true), (7, true), (8, false), (9, true)] mixed rfl rfl (by kernel_rfl) ?_
        replace HM := HM.grow (fr_drew _)
        have hS := Mem.suf (M := []) HM
        refine dp rfl rfl rfl rfl (ex_move rfl rfl) hS ?_
        refine dp rfl rfl rfl rfl (ex_move rfl rfl) hS ?_
        have hc4422 : CellsAt _ (sb p0) (so p0 + (a4409).toNat * 3) [(.int .i64 ((gt x0 a4409).fKey)), (.int .i64 ((gt x0 a4409).fRef.fTx)), (.int .i64 ((gt x0 a4409).fRef.fAt))] := rd_plain hp0 e4421
        refine dp rfl rfl rfl rfl (ex_indexAddr (d := kMember) rfl rfl rfl Try.underlying24 tsz38 hp0 (idx_lo e4421) (idx_hi e4421)) hS ?_
        refine drwp_take rfl (guard_none rfl) rfl rfl (fun w_ hS_ => (ex_loadN (cs := [(.int .i64 ((gt x0 a4409).fKey)), (.int .i64 ((gt x0 a4409).fRef.fTx)), (.int .i64 ((gt x0 a4409).fRef.fAt))]) rfl rfl Try.underlying38 rfl tsz38 rfl ((hS_.at_ hc4422).sub 0 3 rfl))) hS ?_
        refine dp rfl rfl rfl rfl (ex_move rfl rfl) hS ?_
        refine dp rfl rfl rfl rfl (ex_move rfl rfl) hS ?_
        have hc4424 : CellsAt _ (sb p1) (so p1 + (a4409).toNat * 3) [(.int .i64 ((gt x1 a4409).fKey)), (.int .i64 ((gt x1 a4409).fRef.fTx)), (.int .i64 ((gt x1 a4409).fRef.fAt))] := rd_plain hp1 e4423
        refine dp rfl rfl rfl rfl (ex_indexAddr (d := kMember) rfl rfl rfl Try.underlying24 tsz38 hp1 (idx_lo e4423) (idx_hi e4423)) hS ?_
        refine drwp_take rfl (guard_none rfl) rfl rfl (fun w_ hS_ => (ex_loadN (cs := [(.int .i64 ((gt x1 a4409).fKey)), (.int .i64 ((gt x1 a4409).fRef.fTx)), (.int .i64 ((gt x1 a4409).fRef.fAt))]) rfl rfl Try.underlying38 rfl tsz38 rfl ((hS_.at_ hc4424).sub 0 3 rfl))) hS ?_
        refine drwp_one rfl (guard_none rfl) rfl rfl (does_callk rfl callok70 rfl (laws_eqMember.calls (x0 := (gt x0 a4409)) (x1 := (gt x1 a4409)) h4426)) ?_
        rintro _ w4427 ⟨rfl, hn⟩
        replace HM : Mem w [] w4427 [] := HM.call hn
        have hS := Mem.suf (M := []) HM
        refine ⟨hS, ?_⟩
        refine dp rfl rfl rfl rfl (ex_not rfl rfl) hS ?_
        refine drwp_done ?_
        refine at_then ?_
        refine run_cond (b := !t4425) rfl (fun hb4428 => ?_) (fun hb4428 => ?_)
        · replace ho4400 := cond_t hb4428 ho4400
          refine run_seq ?_
          refine run_region rfl ?_
          refine ox rfl rfl rfl rfl (ex_assign rfl rfl) ?_
          refine ops_nil (at_then ?_)
          refine run_ret ?_
          refine at_block_ret ?_
          refine at_then_ret ?_
          refine at_then_ret ?_
          refine at_block_ret ?_
          refine at_then_ret ?_
          have hR := Option.some.inj ho4400
          subst hR
          have hT := thn_inl H
          have hR := Option.some.inj hT
          subst hR
          exact at_ret1 rfl rfl ⟨_, rfl, rfl, HM⟩
        · replace ho4400 := cond_f hb4428 ho4400
          refine run_skip ?_
          refine at_block ?_
          refine at_then ?_
          refine run_region rfl ?_
          refine ox rfl rfl rfl rfl (ex_move rfl rfl) ?_
          refine ox rfl rfl rfl rfl (ex_add rfl rfl rfl) ?_
          refine ox rfl rfl rfl rfl (ex_assign rfl rfl) ?_
          refine ops_nil ?_
          exact at_again k4418 (ρ1 := [(0, p0), (1, p1), (5, .int .i64 (wrap64 (a4409 + 1)))]) (Nat.lt_succ_self _) ⟨_, ho4400, rfl, HM⟩ (Sub.cons rfl (Sub.cons rfl (Sub.cons rfl Sub.nil)))
      · replace ho4400 := cond_f hb4420 ho4400
        refine run_exit ?_
        refine at_then_exit ?_
        refine at_then_exit ?_
        refine at_block_exit ?_
        exact at_mid (ρ' := []) ⟨(Option.some.inj ho4400), rfl, HM⟩ Sub.nil
    · rintro _ w4429 ⟨rfl, rfl, HM⟩
      replace H := (thn_inr H)
      refine run_seq ?_
      refine run_region rfl ?_
      refine ox rfl rfl rfl rfl (ex_assign rfl rfl) ?_
      refine ops_nil (at_then ?_)
      refine run_ret ?_
      have hR := Option.some.inj H
      subst hR
      exact at_ret1 rfl rfl ⟨_, rfl, rfl, HM⟩
end Go.Proofs.Ytbbcabpnkdilgaa.Zk
