/- What functions of the program compute, each as a plain function, and that they do. Conditions: as each theorem states them. -/
import Derived.Test.YtcpacdbdehphkaaGreatDoorParseTxZkF3
namespace Go.Proofs.YtcpacdbdehphkaaGreatDoor.Zk
open Go Go.RowKit Go.IntWalk Go.Proofs
set_option linter.unusedVariables false
set_option linter.unusedSimpArgs false
set_option maxRecDepth 100000
set_option maxHeartbeats 4000000
def spec_ParseTx.f (k : Nat) (x0 : ByteArray) : Option TxResult := ((spec_l3Parse.f k x0).bind fun t2561 => (bif !t2561.2 then some (⟨5, (⟨0, 0, ([] : List Ref), ([] : List Out)⟩ : Tx)⟩ : TxResult) else some (⟨0, (⟨t2561.1.fKind, t2561.1.fMember, t2561.1.fIns, t2561.1.fOuts⟩ : Tx)⟩ : TxResult)))
theorem spec_ParseTx.calls {k : Nat} {x0 : ByteArray}  {w : World}  {r : TxResult} (H : spec_ParseTx.f k x0 = some r) :
    Calls Tryz.prog 4 ([.string x0] : List Value).toArray w (fun e w_ => ∃ v, e = .returned v ∧ ∃ u0 : Value, ∃ u1 : Value, v = (.agg #[.int .i64 r.fCode, .int .i64 r.fTx.fKind, .int .i64 r.fTx.fMember, u0, u1]) ∧ Mem w [] w_ [own kRef 60 u0 r.fTx.fIns, own kOut 49 u1 r.fTx.fOuts]) := by
  have HM := Mem.start w
  refine calls_run (N := 15) Tryz.func4 rfl rfl rfl rfl ?_
  unfold spec_ParseTx.f at H
  refine run_seq ?_
  refine run_region rfl ?_
  refine ops_does rfl (guard_none rfl) rfl rfl (does_alloc (cs := [.int .i64 0, .int .i64 0, .int .i64 0, .slice none 0 0, .slice none 0 0]) rfl tz27 rfl HM) ?_
  rintro _ w2560 ⟨b2557, rfl, HM⟩
  refine ops_nil ?_
  refine at_then ?_
  refine run_seq ?_
  obtain ⟨t2561, h2562, H⟩ := bind_some H
  refine run_region rfl ?_
  refine ops_ex rfl (guard_none rfl) rfl rfl (ex_move rfl rfl) ?_
  refine ops_does rfl (guard_none rfl) rfl rfl (does_callk rfl callok9 rfl (spec_l3Parse.calls (x0 := x0) h2562)) ?_
  rintro _ w2570 ⟨u2563, u2565, rfl, hn⟩
  replace HM : Mem w [] w2570 [own kRef 60 u2563 t2561.1.fIns, own kOut 49 u2565 t2561.1.fOuts, box b2557 27 [.int .i64 0, .int .i64 0, .int .i64 0, .slice none 0 0, .slice none 0 0]] := HM.call hn
  refine ops_ex rfl (guard_none rfl) rfl rfl (ex_move rfl rfl) ?_
  refine ops_ex rfl (guard_none rfl) rfl rfl (ex_extract rfl rfl rfl) ?_
  refine ops_ex rfl (guard_none rfl) rfl rfl (ex_extract rfl rfl rfl) ?_
  refine ops_does rfl (guard_none rfl) rfl rfl (does_alloc (cs := [.int .i64 0, .int .i64 0, .slice none 0 0, .slice none 0 0]) rfl tz25 rfl HM) ?_
  rintro _ w2571 ⟨b2567, rfl, HM⟩
  refine ops_doesS rfl (guard_none rfl) rfl (does_store (vs := [.int .i64 t2561.1.fKind, .int .i64 t2561.1.fMember, u2563, u2565]) (cs' := [.int .i64 t2561.1.fKind, .int .i64 t2561.1.fMember, u2563, u2565]) rfl rfl rfl rfl tsz25 (Ones.int (Ones.int (Ones.rd (HM.own_rd 1 rfl) (Ones.rd (HM.own_rd 2 rfl) Ones.nil)))) rfl rfl HM) ?_
  rintro w2572 HM
  refine ops_ex rfl (guard_none rfl) rfl rfl (ex_assign rfl rfl) ?_
  refine ops_nil ?_
  refine at_then ?_
  refine run_seq ?_
  refine run_seq ?_
  refine run_region rfl ?_
  refine ops_ex rfl (guard_none rfl) rfl rfl (ex_move rfl rfl) ?_
  refine ops_ex rfl (guard_none rfl) rfl rfl (ex_not rfl rfl) ?_
  refine ops_nil ?_
  refine at_then ?_
  refine run_cond (b := !t2561.2) rfl (fun hb2573 => ?_) (fun hb2573 => ?_)
  · replace H := cond_t hb2573 H
    refine run_seq ?_
    refine run_region rfl ?_
    refine ops_ex rfl (guard_none rfl) rfl rfl (ex_build (cells := #[(.int .i64 5), (.int .i64 0), (.int .i64 0), (.slice none 0 0), (.slice none 0 0)]) rfl rfl (by kernel_rfl)) ?_
    replace HM := HM.front 3 rfl rfl
    refine ops_doesS rfl (guard_none rfl) rfl (does_store (vs := [.int .i64 5, .int .i64 0, .int .i64 0, .slice none 0 0, .slice none 0 0]) (cs' := [.int .i64 5, .int .i64 0, .int .i64 0, .slice none 0 0, .slice none 0 0]) rfl rfl rfl rfl tsz27 (Ones.int (Ones.int (Ones.int (Ones.sl (Ones.sl Ones.nil))))) rfl rfl HM) ?_
    rintro w2574 HM
    refine ops_nil ?_
    refine at_then ?_
    refine run_ret ?_
    refine at_then_ret ?_
    replace HM := HM.empty kRef 60 none
    replace HM := HM.empty kOut 49 none
    replace HM := (HM.front 3 rfl rfl).drop
    replace HM := (HM.front 3 rfl rfl).drop
    replace HM := (HM.front 3 rfl rfl).drop
    replace HM := HM.front 1 rfl rfl
    replace HM := HM.front 2 rfl rfl
    have hcb0 := HM.box_at 0 rfl
    replace HM := (HM.front 0 rfl rfl).drop
    have hR := Option.some.inj H
    subst hR
    exact at_retN rfl rfl Tryz.underlying27 rfl tsz27 rfl hcb0 ⟨_, rfl, _, _, rfl, HM⟩
  · replace H := cond_f hb2573 H
    refine run_skip ?_
    refine at_then ?_
    refine run_seq ?_
    refine run_region rfl ?_
    refine ops_ex rfl (guard_none rfl) rfl rfl (ex_loadN (cs := [(.int .i64 t2561.1.fKind), (.int .i64 t2561.1.fMember), u2563, u2565]) rfl rfl Tryz.underlying25 rfl tsz25 rfl ((HM.box_at 0 rfl).sub 0 4 rfl)) ?_
    refine ops_ex rfl (guard_none rfl) rfl rfl (ex_build2 (fun u2563 u2565 => [(1, .agg #[(.int .i64 t2561.1.fKind), (.int .i64 t2561.1.fMember), u2563, u2565])]) (fun u2563 u2565 => #[.int .i64 0, .int .i64 t2561.1.fKind, .int .i64 t2561.1.fMember, u2563, u2565]) rfl rfl (fun _ _ _ _ _ _ => by kernel_rfl) (HM.own_rd 1 rfl).isSl (HM.own_rd 2 rfl).isSl) ?_
    replace HM := HM.front 3 rfl rfl
    refine ops_doesS rfl (guard_none rfl) rfl (does_store (vs := [.int .i64 0, .int .i64 t2561.1.fKind, .int .i64 t2561.1.fMember, u2563, u2565]) (cs' := [.int .i64 0, .int .i64 t2561.1.fKind, .int .i64 t2561.1.fMember, u2563, u2565]) rfl rfl rfl rfl tsz27 (Ones.int (Ones.int (Ones.int (Ones.rd (HM.own_rd 2 rfl) (Ones.rd (HM.own_rd 3 rfl) Ones.nil))))) rfl rfl HM) ?_
    rintro w2577 HM
    refine ops_nil ?_
    refine at_then ?_
    refine run_ret ?_
    replace HM := (HM.front 1 rfl rfl).drop
    have hcb0 := HM.box_at 0 rfl
    replace HM := (HM.front 0 rfl rfl).drop
    have hR := Option.some.inj H
    subst hR
    exact at_retN rfl rfl Tryz.underlying27 rfl tsz27 rfl hcb0 ⟨_, rfl, _, _, rfl, HM⟩

def strings_Split.f (k : Nat) (x0 x1 : ByteArray) : Option (List ByteArray) := (chk (leB 1 x1.size && leB x0.size 4294967280) (some (Lib.splitB x1 0 (Lib.countB x0 x1) x0)))
theorem strings_Split.calls {k : Nat} {x0 x1 : ByteArray} {w : World} (htab : TabP w) {r : List ByteArray} (H : strings_Split.f k x0 x1 = some r) :
    Calls Tryz.prog 21 ([.string x0, .string x1] : List Value).toArray w (fun e w_ => ∃ v, e = .returned v ∧ ∃ u0 : Value, v = u0 ∧ Mem w [] w_ [own kStr 9 u0 r]) := by
  obtain ⟨h, H⟩ := chk_some H
  have hR := Option.some.inj H
  subst hR
  rw [Bool.and_eq_true] at h
  have h1 : 1 ≤ x1.size := leB_le h.1
  have h0 : x0.size ≤ 4294967280 := leB_le h.2
  obtain ⟨m, hm⟩ := htab.maxLen
  refine (Tryz.strings_Split x0 x1 m w (by omega) hm h1).mono fun e w_ ⟨he, hw⟩ => ⟨_, he, _, rfl, ?_⟩
  subst hw
  have hc := Lib.countB_le x1 h1 _ x0 (Nat.le_refl _)
  exact mem_row rfl (Lib.splitB_all x1 h1 0 _ x0 rfl) (by unfold maxLen; omega) (fun w => by simpa using Elems.strs (d := kStr) (fun x => ⟨rfl, rfl⟩) _)

def impl_kindWords.f (k : Nat)  : Option ((List ByteArray)) := some ([(⟨#[112, 97, 121]⟩ : ByteArray), (⟨#[106, 111, 105, 110]⟩ : ByteArray), (⟨#[108, 101, 97, 118, 101]⟩ : ByteArray)] : List ByteArray)
theorem impl_kindWords.calls {k : Nat}   {w : World}  {r : (List ByteArray)} (H : impl_kindWords.f k  = some r) :
    Calls Tryz.prog 23 ([] : List Value).toArray w (fun e w_ => ∃ v, e = .returned v ∧ ∃ u0 : Value, v = u0 ∧ Mem w [] w_ [own kStr 9 u0 r]) := by
  have HM := Mem.start w
  refine calls_run (N := 2) Tryz.func23 rfl rfl rfl rfl ?_
  unfold impl_kindWords.f at H
  refine run_seq ?_
  refine run_region rfl ?_
  refine ops_ex rfl (guard_none rfl) rfl rfl (ex_assign rfl rfl) ?_
  refine ops_nil ?_
  refine at_then ?_
  refine run_seq ?_
  refine run_region rfl ?_
  refine ops_does rfl (guard_none rfl) rfl rfl (does_lit (e := 9) (cs := [.string (⟨#[112, 97, 121]⟩ : ByteArray), .string (⟨#[106, 111, 105, 110]⟩ : ByteArray), .string (⟨#[108, 101, 97, 118, 101]⟩ : ByteArray)]) (xs := ([(⟨#[112, 97, 121]⟩ : ByteArray), (⟨#[106, 111, 105, 110]⟩ : ByteArray), (⟨#[108, 101, 97, 118, 101]⟩ : ByteArray)] : List ByteArray)) kStr rfl rfl (fun _ => by kernel_rfl) rfl rfl (fun _ _ h => by have h' : _ = [] := h; subst h'; exact (Elems.cons (d := kStr) (x := (⟨#[112, 97, 121]⟩ : ByteArray)) (f := []) ⟨rfl, rfl⟩ (Elems.cons (d := kStr) (x := (⟨#[106, 111, 105, 110]⟩ : ByteArray)) (f := []) ⟨rfl, rfl⟩ (Elems.cons (d := kStr) (x := (⟨#[108, 101, 97, 118, 101]⟩ : ByteArray)) (f := []) ⟨rfl, rfl⟩ .nil)))) HM.emp) ?_
  rintro v2601 w2604 HM
  refine ops_ex rfl (guard_none rfl) rfl rfl (ex_assign rfl rfl) ?_
  refine ops_nil ?_
  refine at_then ?_
  refine run_ret ?_
  have hR := Option.some.inj H
  subst hR
  exact at_ret1 rfl rfl ⟨_, rfl, _, rfl, HM⟩

def slices_Index_string.l0 (x0 : List ByteArray) (x1 : ByteArray) : Nat → Int → Option (Int ⊕ Unit)
  | 0, _ => none
  | k + 1, a2643 => (bif (decide (a2643 < (x0.length : Int))) then (chk (idxOk a2643 x0.length) (bif (sEq x1 (gt x0 a2643)) then some (.inl a2643) else slices_Index_string.l0 x0 x1 k (wrap64 (a2643 + 1)))) else some (.inr ()))
theorem slices_Index_string.l0_z (x0 : List ByteArray) (x1 : ByteArray) (a2643 : Int) : slices_Index_string.l0 x0 x1 0 a2643 = none := rfl
theorem slices_Index_string.l0_s (x0 : List ByteArray) (x1 : ByteArray) (k : Nat) (a2643 : Int) : slices_Index_string.l0 x0 x1 (k + 1) a2643 = (bif (decide (a2643 < (x0.length : Int))) then (chk (idxOk a2643 x0.length) (bif (sEq x1 (gt x0 a2643)) then some (.inl a2643) else slices_Index_string.l0 x0 x1 k (wrap64 (a2643 + 1)))) else some (.inr ())) := rfl
def slices_Index_string.f (k : Nat) (x0 : List ByteArray) (x1 : ByteArray) : Option Int := ((slices_Index_string.l0 x0 x1 k 0).bind fun o2637 => thn o2637 (fun r => some r) (fun _ => some (-1)))
theorem slices_Index_string.calls {k : Nat} {x0 : List ByteArray} {x1 : ByteArray} {p0 : Value} {w : World} (hp0 : RdS kStr w p0 x0) {r : Int} (H : slices_Index_string.f k x0 x1 = some r) :
    Calls Tryz.prog 22 ([p0, .string x1] : List Value).toArray w (fun e w_ => ∃ v, e = .returned v ∧ v = (.int .i64 r) ∧ Mem w [] w_ []) := by
  have HM := Mem.start w
  refine calls_run (N := 19) Tryz.func22 rfl rfl rfl rfl ?_
  unfold slices_Index_string.f at H
  refine run_seq ?_
  refine run_region rfl ?_
  refine ops_ex rfl (guard_none rfl) rfl rfl (ex_assign rfl rfl) ?_
  refine ops_nil ?_
  refine at_then ?_
  obtain ⟨o2637, ho2638, H⟩ := bind_some H
  refine run_mid (fun ρ_ w_ => Sum.inr () = o2637 ∧ ρ_ = [] ∧ Mem w [] w_ []) ?_ ?_
  · skip
    refine run_seq ?_
    refine run_region rfl ?_
    refine ops_ex rfl (guard_none rfl) rfl rfl (ex_move rfl rfl) ?_
    refine ops_ex rfl (guard_none rfl) rfl rfl (ex_len (d := kStr) (xs := x0) rfl rfl Tryz.underlying36 hp0) ?_
    refine ops_ex rfl (guard_none rfl) rfl rfl (ex_move rfl rfl) ?_
    refine ops_nil ?_
    refine at_then ?_
    refine run_block ?_
    refine run_loop (fun k_ ρ_ w_ => ∃ a2643 : Int, slices_Index_string.l0 x0 x1 k_ a2643 = some o2637 ∧ ρ_ = [(0, p0), (1, .string x1), (7, .int .i64 (x0.length : Int)), (8, .int .i64 a2643)] ∧ Mem w [] w_ []) k (ρ1 := [(0, p0), (1, .string x1), (7, .int .i64 (x0.length : Int)), (8, .int .i64 0)]) ⟨_, ho2638, rfl, HM⟩ (Sub.cons rfl (Sub.cons rfl (Sub.cons rfl (Sub.cons rfl Sub.nil)))) ?_
    clear HM ho2638
    rintro k2648 _ w2649 ⟨a2643, ho2638, rfl, HM⟩
    obtain _ | k2648 := k2648
    · exact nomatch ((slices_Index_string.l0_z x0 x1 a2643).symm.trans ho2638)
    replace ho2638 := (slices_Index_string.l0_s x0 x1 k2648 a2643).symm.trans ho2638
    refine run_seq ?_
    refine run_region rfl ?_
    refine ops_ex rfl (guard_none rfl) rfl rfl (ex_lss rfl rfl rfl) ?_
    refine ops_nil ?_
    refine at_then ?_
    refine run_seq ?_
    refine run_cond (b := (decide (a2643 < (x0.length : Int)))) rfl (fun hb2650 => ?_) (fun hb2650 => ?_)
    · replace ho2638 := cond_t hb2650 ho2638
      refine run_skip ?_
      refine at_then ?_
      refine run_seq ?_
      refine run_block ?_
      refine run_seq ?_
      refine run_region rfl ?_
      refine ops_ex rfl (guard_none rfl) rfl rfl (ex_move rfl rfl) ?_
      refine ops_ex rfl (guard_none rfl) rfl rfl (ex_assign rfl rfl) ?_
      refine ops_nil ?_
      refine at_then ?_
      refine run_seq ?_
      obtain ⟨e2651, ho2638⟩ := chk_some ho2638
      refine run_region rfl ?_
      refine ops_ex rfl (guard_none rfl) rfl rfl (ex_move rfl rfl) ?_
      refine ops_ex rfl (guard_none rfl) rfl rfl (ex_move rfl rfl) ?_
      refine ops_ex rfl (guard_none rfl) rfl rfl (ex_move rfl rfl) ?_
      have hc2652 : CellsAt _ (sb p0) (so p0 + (a2643).toNat * 1) [(.string (gt x0 a2643))] := rd_plain hp0 e2651
      refine ops_ex rfl (guard_none rfl) rfl rfl (ex_indexAddr (d := kStr) rfl rfl rfl Tryz.underlying36 tsz9 hp0 (idx_lo e2651) (idx_hi e2651)) ?_
      refine ops_ex rfl (guard_none rfl) rfl rfl (ex_load1 rfl rfl Tryz.underlying9 rfl ((HM.at_ hc2652) 0 _ rfl)) ?_
      refine ops_ex rfl (guard_none rfl) rfl rfl (ex_seql rfl rfl rfl) ?_
      refine ops_nil ?_
      refine at_then ?_
      refine run_cond (b := (sEq x1 (gt x0 a2643))) rfl (fun hb2653 => ?_) (fun hb2653 => ?_)
      · replace ho2638 := cond_t hb2653 ho2638
        refine run_seq ?_
        refine run_region rfl ?_
        refine ops_ex rfl (guard_none rfl) rfl rfl (ex_move rfl rfl) ?_
        refine ops_ex rfl (guard_none rfl) rfl rfl (ex_assign rfl rfl) ?_
        refine ops_nil ?_
        refine at_then ?_
        refine run_ret ?_
        refine at_block_ret ?_
        refine at_then_ret ?_
        refine at_then_ret ?_
        refine at_block_ret ?_
        refine at_then_ret ?_
        have hR := Option.some.inj ho2638
        subst hR
        have hT := thn_inl H
        have hR := Option.some.inj hT
        subst hR
        exact at_ret1 rfl rfl ⟨_, rfl, rfl, HM⟩
      · replace ho2638 := cond_f hb2653 ho2638
        refine run_skip ?_
        refine at_block ?_
        refine at_then ?_
        refine run_region rfl ?_
        refine ops_ex rfl (guard_none rfl) rfl rfl (ex_add rfl rfl rfl) ?_
        refine ops_ex rfl (guard_none rfl) rfl rfl (ex_move rfl rfl) ?_
        refine ops_nil ?_
        exact at_again k2648 (ρ1 := [(0, p0), (1, .string x1), (7, .int .i64 (x0.length : Int)), (8, .int .i64 (wrap64 (a2643 + 1)))]) (Nat.lt_succ_self _) ⟨_, ho2638, rfl, HM⟩ (Sub.cons rfl (Sub.cons rfl (Sub.cons rfl (Sub.cons rfl Sub.nil))))
    · replace ho2638 := cond_f hb2650 ho2638
      refine run_exit ?_
      refine at_then_exit ?_
      refine at_then_exit ?_
      refine at_block_exit ?_
      exact at_mid (ρ' := []) ⟨(Option.some.inj ho2638), rfl, HM⟩ Sub.nil
  · rintro _ w2654 ⟨rfl, rfl, HM⟩
    replace H := (thn_inr H)
    refine run_seq ?_
    refine run_region rfl ?_
    refine ops_ex rfl (guard_none rfl) rfl rfl (ex_assign rfl rfl) ?_
    refine ops_nil ?_
    refine at_then ?_
    refine run_ret ?_
    have hR := Option.some.inj H
    subst hR
    exact at_ret1 rfl rfl ⟨_, rfl, rfl, HM⟩

def strconv_ParseInt.f (k : Nat) (x0 : ByteArray) (x1 x2 : Int) : Option (Int × Bool) := (chk ((x1 == 10 && x2 == 64) && leB x0.size 281474976710656) (some (piR x0.data.toList (Lib.parseIntB 64 x0.data.toList))))
theorem strconv_ParseInt.calls {k : Nat} {x0 : ByteArray} {x1 x2 : Int} {w : World} (htab : TabP w) {r : Int × Bool} (H : strconv_ParseInt.f k x0 x1 x2 = some r) :
    Calls Tryz.prog 44 ([.string x0, .int .i64 x1, .int .i64 x2] : List Value).toArray w (fun e w_ => ∃ v, e = .returned v ∧ ∃ u0 : Value, ErrV u0 r.2 ∧ v = .tuple #[.int .i64 r.1, u0] ∧ Mem w [] w_ []) := by
  obtain ⟨h, H⟩ := chk_some H
  have hR := Option.some.inj H
  subst hR
  simp only [Bool.and_eq_true, beq_iff_eq] at h
  obtain ⟨⟨rfl, rfl⟩, h⟩ := h
  have h0 : x0.size ≤ 281474976710656 := leB_le h
  have hm : ∀ w_, Below w.heap.size w w_ → Mem w [] w_ [] := fun w_ hb => ⟨Fr.of_below hb, [], .nil, List.nodup_nil, by simp⟩
  cases hp : Lib.parseIntB 64 x0.data.toList with
  | ok v =>
    refine (Tryz.strconv_ParseInt_10_at64_ok x0 (by omega) v hp w).mono fun e w_ ⟨he, hw⟩ => ⟨_, he, _, .inl ⟨rfl, rfl⟩, rfl, hm _ ?_⟩
    rcases hw with rfl | ⟨t, rfl⟩
    · exact Below.refl _ _
    · exact Lib.bytesWorld_below _ _ _
  | range =>
    obtain ⟨te, pe, hv⟩ := htab.rng
    exact (Tryz.strconv_ParseInt_10_at64_range x0 h0 hp _ w hv (.inr ⟨te, pe, rfl⟩)).mono fun e w_ ⟨N, he, _, _, hw⟩ => ⟨_, he, _, .inr ⟨rfl, _, _, rfl⟩, rfl, hm _ hw⟩
  | _ =>
    obtain ⟨te, pe, hv⟩ := htab.syn
    exact (Tryz.strconv_ParseInt_10_at64_syntax x0 h0 hp _ w hv (.inr ⟨te, pe, rfl⟩)).mono fun e w_ ⟨N, he, _, _, hw⟩ => ⟨_, he, _, .inr ⟨rfl, _, _, rfl⟩, rfl, hm _ hw⟩

def strconv_FormatInt.f (k : Nat) (x0 : Int) (x1 : Int) : Option ByteArray := (chk ((decide (-9223372036854775808 ≤ x0) && decide (x0 ≤ 9223372036854775807)) && (x1 == 10)) (some (⟨(Lib.itoa x0).toArray⟩ : ByteArray)))
theorem strconv_FormatInt.calls {k : Nat} {x0 x1 : Int} {w : World} (htab : TabP w) {r : ByteArray} (H : strconv_FormatInt.f k x0 x1 = some r) :
    Calls Tryz.prog 66 ([.int .i64 x0, .int .i64 x1] : List Value).toArray w (fun e w_ => ∃ v, e = .returned v ∧ v = (.string r) ∧ Mem w [] w_ []) := by
  obtain ⟨h, H⟩ := chk_some H
  have hR := Option.some.inj H
  subst hR
  simp only [Bool.and_eq_true, decide_eq_true_eq, beq_iff_eq] at h
  obtain ⟨⟨h0, h1⟩, rfl⟩ := h
  exact (Tryz.strconv_FormatInt_10 x0 h0 h1 w htab.tab).mono fun e w_ ⟨he, k, os, hw⟩ => ⟨_, he, rfl, hw ▸ mem_grow w k os⟩

def impl_dec.f (k : Nat) (x0 : Int) : Option ByteArray := ((strconv_FormatInt.f k x0 10).bind fun t2671 => some t2671)
theorem impl_dec.calls {k : Nat} {x0 : Int}  {w : World} (htab : TabP w)  {r : ByteArray} (H : impl_dec.f k x0 = some r) :
    Calls Tryz.prog 45 ([.int .i64 x0] : List Value).toArray w (fun e w_ => ∃ v, e = .returned v ∧ v = (.string r) ∧ Mem w [] w_ []) := by
  have HM := Mem.start w
  refine calls_run (N := 5) Tryz.func45 rfl rfl rfl rfl ?_
  unfold impl_dec.f at H
  refine run_seq ?_
  refine run_region rfl ?_
  refine ops_ex rfl (guard_none rfl) rfl rfl (ex_assign rfl rfl) ?_
  refine ops_nil ?_
  refine at_then ?_
  refine run_seq ?_
  obtain ⟨t2671, h2672, H⟩ := bind_some H
  refine run_region rfl ?_
  refine ops_ex rfl (guard_none rfl) rfl rfl (ex_move rfl rfl) ?_
  refine ops_does rfl (guard_none rfl) rfl rfl (does_callk rfl callok66 rfl (strconv_FormatInt.calls (x0 := x0) (x1 := 10) (HM.tabP htab) h2672)) ?_
  rintro _ w2673 ⟨rfl, hn⟩
  replace HM : Mem w [] w2673 [] := HM.call hn
  refine ops_ex rfl (guard_none rfl) rfl rfl (ex_assign rfl rfl) ?_
  refine ops_nil ?_
  refine at_then ?_
  refine run_ret ?_
  have hR := Option.some.inj H
  subst hR
  exact at_ret1 rfl rfl ⟨_, rfl, rfl, HM⟩

def impl_number.f (k : Nat) (x0 : ByteArray) : Option Int := ((strconv_ParseInt.f k x0 10 64).bind fun t2677 => ((bif (!((!t2677.2) || (decide (10 < (x0.size : Int))))) then impl_dec.f k t2677.1 else some default).bind fun t2682 => (bif (((!t2677.2) || (decide (10 < (x0.size : Int)))) || (!sEq t2682 x0)) then some (-1) else some t2677.1)))
theorem impl_number.calls {k : Nat} {x0 : ByteArray}  {w : World} (htab : TabP w)  {r : Int} (H : impl_number.f k x0 = some r) :
    Calls Tryz.prog 24 ([.string x0] : List Value).toArray w (fun e w_ => ∃ v, e = .returned v ∧ v = (.int .i64 r) ∧ Mem w [] w_ []) := by
  have HM := Mem.start w
  refine calls_run (N := 24) Tryz.func24 rfl rfl rfl rfl ?_
  unfold impl_number.f at H
  refine run_seq ?_
  refine run_region rfl ?_
  refine ops_ex rfl (guard_none rfl) rfl rfl (ex_assign rfl rfl) ?_
  refine ops_nil ?_
  refine at_then ?_
  refine run_seq ?_
  obtain ⟨t2677, h2678, H⟩ := bind_some H
  refine run_region rfl ?_
  refine ops_ex rfl (guard_none rfl) rfl rfl (ex_move rfl rfl) ?_
  refine ops_does rfl (guard_none rfl) rfl rfl (does_callk rfl callok44 rfl (strconv_ParseInt.calls (x0 := x0) (x1 := 10) (x2 := 64) (HM.tabP htab) h2678)) ?_
  rintro _ w2681 ⟨u2679, hE2680, rfl, hn⟩
  replace HM : Mem w [] w2681 [] := HM.call hn
  refine ops_ex rfl (guard_none rfl) rfl rfl (ex_move rfl rfl) ?_
  refine ops_ex rfl (guard_none rfl) rfl rfl (ex_extract rfl rfl rfl) ?_
  refine ops_ex rfl (guard_none rfl) rfl rfl (ex_extract rfl rfl rfl) ?_
  refine ops_ex rfl (guard_none rfl) rfl rfl (ex_assign rfl rfl) ?_
  refine ops_ex rfl (guard_none rfl) rfl rfl (ex_assign rfl rfl) ?_
  refine ops_nil ?_
  refine at_then ?_
  refine run_seq ?_
  refine run_seq ?_
  obtain ⟨t2682, h2683, H⟩ := bind_some H
  refine run_meet (fun ρ_ w_ => ρ_ = [(3, .int .i64 t2677.1), (22, .bool (((!t2677.2) || (decide (10 < (x0.size : Int)))) || (!sEq t2682 x0)))] ∧ Mem w [] w_ []) ?_ ?_
  · skip
    refine run_region rfl ?_
    refine ops_ex rfl (guard_none rfl) rfl rfl (ex_move rfl rfl) ?_
    refine ops_ex rfl (guard_none rfl) rfl rfl (ex_errneq rfl rfl rfl Tryz.underlying81 hE2680) ?_
    refine ops_ex rfl (guard_none rfl) rfl rfl (ex_move rfl rfl) ?_
    refine bool_cases (!t2677.2) (fun hg2684 => ?_) (fun hg2684 => ?_)
    · skip
      refine ops_off rfl (guard_off rfl rfl rfl hg2684) rfl rfl ?_
      refine ops_off rfl (guard_off rfl rfl rfl hg2684) rfl rfl ?_
      refine ops_off rfl (guard_off rfl rfl rfl hg2684) rfl rfl ?_
      have hg2685 : ((!t2677.2) || (decide (10 < (x0.size : Int)))) = true := by simp only [hg2684, Bool.and_true, Bool.true_and, Bool.and_false, Bool.false_and, Bool.or_true, Bool.true_or, Bool.or_false, Bool.false_or, Bool.not_true, Bool.not_false, Bool.not_not]
      refine ops_ex (v := .bool ((!t2677.2) || (decide (10 < (x0.size : Int))))) rfl (guard_none rfl) rfl rfl (ex_por_t rfl rfl hg2684) ?_
      refine ops_ex rfl (guard_none rfl) rfl rfl (ex_move rfl rfl) ?_
      refine ops_off rfl (guard_off rfl rfl rfl hg2685) rfl rfl ?_
      refine ops_off rfl (guard_off rfl rfl rfl hg2685) rfl rfl ?_
      refine ops_off rfl (guard_off rfl rfl rfl hg2685) rfl rfl ?_
      refine ops_off rfl (guard_off rfl rfl rfl hg2685) rfl rfl ?_
      have hg2686 : (((!t2677.2) || (decide (10 < (x0.size : Int)))) || (!sEq t2682 x0)) = true := by simp only [hg2685, Bool.and_true, Bool.true_and, Bool.and_false, Bool.false_and, Bool.or_true, Bool.true_or, Bool.or_false, Bool.false_or, Bool.not_true, Bool.not_false, Bool.not_not]
      refine ops_ex (v := .bool (((!t2677.2) || (decide (10 < (x0.size : Int)))) || (!sEq t2682 x0))) rfl (guard_none rfl) rfl rfl (ex_por_t rfl rfl hg2685) ?_
      refine ops_nil ?_
      exact at_meet [(3, .int .i64 t2677.1), (22, .bool (((!t2677.2) || (decide (10 < (x0.size : Int)))) || (!sEq t2682 x0)))] ⟨rfl, HM⟩ (Sub.cons rfl (Sub.cons rfl Sub.nil))
    · skip
      refine ops_ex rfl (guard_on rfl rfl rfl hg2684) rfl rfl (ex_move rfl rfl) ?_
      refine ops_ex rfl (guard_on rfl rfl rfl hg2684) rfl rfl (ex_strlen rfl rfl Tryz.underlying9) ?_
      refine ops_ex rfl (guard_on rfl rfl rfl hg2684) rfl rfl (ex_gtr rfl rfl rfl) ?_
      refine ops_ex (v := .bool ((!t2677.2) || (decide (10 < (x0.size : Int))))) rfl (guard_none rfl) rfl rfl (ex_por_f rfl rfl hg2684 rfl) ?_
      refine ops_ex rfl (guard_none rfl) rfl rfl (ex_move rfl rfl) ?_
      refine bool_cases ((!t2677.2) || (decide (10 < (x0.size : Int)))) (fun hg2687 => ?_) (fun hg2687 => ?_)
      · skip
        refine ops_off rfl (guard_off rfl rfl rfl hg2687) rfl rfl ?_
        refine ops_off rfl (guard_off rfl rfl rfl hg2687) rfl rfl ?_
        refine ops_off rfl (guard_off rfl rfl rfl hg2687) rfl rfl ?_
        refine ops_off rfl (guard_off rfl rfl rfl hg2687) rfl rfl ?_
        have hg2688 : (((!t2677.2) || (decide (10 < (x0.size : Int)))) || (!sEq t2682 x0)) = true := by simp only [hg2687, Bool.and_true, Bool.true_and, Bool.and_false, Bool.false_and, Bool.or_true, Bool.true_or, Bool.or_false, Bool.false_or, Bool.not_true, Bool.not_false, Bool.not_not]
        refine ops_ex (v := .bool (((!t2677.2) || (decide (10 < (x0.size : Int)))) || (!sEq t2682 x0))) rfl (guard_none rfl) rfl rfl (ex_por_t rfl rfl hg2687) ?_
        refine ops_nil ?_
        exact at_meet [(3, .int .i64 t2677.1), (22, .bool (((!t2677.2) || (decide (10 < (x0.size : Int)))) || (!sEq t2682 x0)))] ⟨rfl, HM⟩ (Sub.cons rfl (Sub.cons rfl Sub.nil))
      · skip
        refine ops_ex rfl (guard_on rfl rfl rfl hg2687) rfl rfl (ex_move rfl rfl) ?_
        refine ops_does rfl (guard_on rfl rfl rfl hg2687) rfl rfl (does_callk rfl callok45 rfl (impl_dec.calls (x0 := t2677.1) (HM.tabP htab) (cond_t (not_mk hg2687) h2683))) ?_
        rintro _ w2689 ⟨rfl, hn⟩
        replace HM : Mem w [] w2689 [] := HM.call hn
        refine ops_ex rfl (guard_on rfl rfl rfl hg2687) rfl rfl (ex_move rfl rfl) ?_
        refine ops_ex rfl (guard_on rfl rfl rfl hg2687) rfl rfl (ex_sneq rfl rfl rfl) ?_
        refine ops_ex (v := .bool (((!t2677.2) || (decide (10 < (x0.size : Int)))) || (!sEq t2682 x0))) rfl (guard_none rfl) rfl rfl (ex_por_f rfl rfl hg2687 rfl) ?_
        refine ops_nil ?_
        exact at_meet [(3, .int .i64 t2677.1), (22, .bool (((!t2677.2) || (decide (10 < (x0.size : Int)))) || (!sEq t2682 x0)))] ⟨rfl, HM⟩ (Sub.cons rfl (Sub.cons rfl Sub.nil))
  · rintro _ w2690 ⟨rfl, HM⟩
    refine at_then ?_
    refine run_cond (b := (((!t2677.2) || (decide (10 < (x0.size : Int)))) || (!sEq t2682 x0))) rfl (fun hb2691 => ?_) (fun hb2691 => ?_)
    · replace H := cond_t hb2691 H
      refine run_seq ?_
      refine run_region rfl ?_
      refine ops_ex rfl (guard_none rfl) rfl rfl (ex_assign rfl rfl) ?_
      refine ops_nil ?_
      refine at_then ?_
      refine run_ret ?_
      refine at_then_ret ?_
      have hR := Option.some.inj H
      subst hR
      exact at_ret1 rfl rfl ⟨_, rfl, rfl, HM⟩
    · replace H := cond_f hb2691 H
      refine run_skip ?_
      refine at_then ?_
      refine run_seq ?_
      refine run_region rfl ?_
      refine ops_ex rfl (guard_none rfl) rfl rfl (ex_move rfl rfl) ?_
      refine ops_ex rfl (guard_none rfl) rfl rfl (ex_assign rfl rfl) ?_
      refine ops_nil ?_
      refine at_then ?_
      refine run_ret ?_
      have hR := Option.some.inj H
      subst hR
      exact at_ret1 rfl rfl ⟨_, rfl, rfl, HM⟩

def strings_Cut.f (k : Nat) (x0 x1 : ByteArray) : Option (ByteArray × ByteArray × Bool) := (chk (leB x0.size 4294967280) (some ((⟨(Lib.cut x0.data.toList x1.data.toList).1.toArray⟩ : ByteArray), (⟨(Lib.cut x0.data.toList x1.data.toList).2.1.toArray⟩ : ByteArray), (Lib.cut x0.data.toList x1.data.toList).2.2)))
theorem strings_Cut.calls {k : Nat} {x0 x1 : ByteArray} {w : World} (htab : TabP w) {r : ByteArray × ByteArray × Bool} (H : strings_Cut.f k x0 x1 = some r) :
    Calls Tryz.prog 25 ([.string x0, .string x1] : List Value).toArray w (fun e w_ => ∃ v, e = .returned v ∧ v = .tuple #[.string r.1, .string r.2.1, .bool r.2.2] ∧ Mem w [] w_ []) := by
  obtain ⟨h, H⟩ := chk_some H
  have hR := Option.some.inj H
  subst hR
  have h0 : x0.size ≤ 4294967280 := leB_le h
  have hm : ∀ w_, Below w.heap.size w w_ → Mem w [] w_ [] := fun w_ hb => ⟨Fr.of_below hb, [], .nil, List.nodup_nil, by simp⟩
  obtain ⟨m, hm'⟩ := htab.maxLen
  exact (Tryz.strings_Cut x0 x1 m w (by omega) hm').mono fun e w_ ⟨he, n, hw⟩ => ⟨_, he, rfl, hm _ (hw ▸ ⟨rfl, rfl, rfl, Nat.le_refl _, fun _ _ => rfl⟩)⟩

def impl_numbers.l0 (t2919 : List ByteArray) : Nat → (List Int) → Int → Option ((List Int))
  | 0, _, _ => none
  | k + 1, a2935, a2937 => (bif (decide (a2937 < (t2919.length : Int))) then (chk (idxOk a2937 t2919.length) ((impl_number.f k (gt t2919 a2937)).bind fun t2952 => (chk (leB ((a2935.length + ([t2952] : List Int).length) * 8) 140737488355328) (impl_numbers.l0 t2919 k (a2935 ++ ([t2952] : List Int)) (wrap64 (a2937 + 1)))))) else some a2935)
theorem impl_numbers.l0_z (t2919 : List ByteArray) (a2935 : List Int) (a2937 : Int) : impl_numbers.l0 t2919 0 a2935 a2937 = none := rfl
theorem impl_numbers.l0_s (t2919 : List ByteArray) (k : Nat) (a2935 : List Int) (a2937 : Int) : impl_numbers.l0 t2919 (k + 1) a2935 a2937 = (bif (decide (a2937 < (t2919.length : Int))) then (chk (idxOk a2937 t2919.length) ((impl_number.f k (gt t2919 a2937)).bind fun t2952 => (chk (leB ((a2935.length + ([t2952] : List Int).length) * 8) 140737488355328) (impl_numbers.l0 t2919 k (a2935 ++ ([t2952] : List Int)) (wrap64 (a2937 + 1)))))) else some a2935) := rfl
def impl_numbers.f (k : Nat) (x0 : ByteArray) (x1 : ByteArray) : Option ((List Int)) := (((strings_Split.f k x0 x1).bind fun t2919 => impl_numbers.l0 t2919 k ([] : List Int) 0).bind (fun a2915 => some a2915))
theorem impl_numbers.calls {k : Nat} {x0 : ByteArray} {x1 : ByteArray}  {w : World} (htab : TabP w)  {r : (List Int)} (H : impl_numbers.f k x0 x1 = some r) :
    Calls Tryz.prog 68 ([.string x0, .string x1] : List Value).toArray w (fun e w_ => ∃ v, e = .returned v ∧ ∃ u0 : Value, v = u0 ∧ Mem w [] w_ [own kInt 2 u0 r]) := by
  have HM := Mem.start w
  refine calls_run (N := 24) Tryz.func68 rfl rfl rfl rfl ?_
  unfold impl_numbers.f at H
  refine run_seq ?_
  refine run_region rfl ?_
  refine ops_ex rfl (guard_none rfl) rfl rfl (ex_assign rfl rfl) ?_
  refine ops_nil ?_
  refine at_then ?_
  refine run_seq ?_
  refine run_region rfl ?_
  refine ops_does rfl (guard_none rfl) rfl rfl (does_lit (e := 2) (cs := []) (xs := ([] : List Int)) kInt rfl rfl (fun _ => by kernel_rfl) rfl rfl (fun _ _ h => by have h' : _ = [] := h; subst h'; exact .nil) HM.emp) ?_
  rintro v2872 w2875 HM
  refine ops_ex rfl (guard_none rfl) rfl rfl (ex_assign rfl rfl) ?_
  refine ops_nil ?_
  refine at_then ?_
  obtain ⟨o2917, ho2918, H⟩ := bind_some H
  refine run_mid (fun ρ_ w_ => ∃ v2914 : Value, ∃ a2915 : List Int, a2915 = o2917 ∧ ρ_ = [(5, v2914)] ∧ Mem w [] w_ [own kInt 2 v2914 a2915]) ?_ ?_
  · clear H
    refine run_seq ?_
    obtain ⟨t2919, h2920, ho2918⟩ := bind_some ho2918
    refine run_region rfl ?_
    refine ops_ex rfl (guard_none rfl) rfl rfl (ex_move rfl rfl) ?_
    refine ops_ex rfl (guard_none rfl) rfl rfl (ex_move rfl rfl) ?_
    refine ops_does rfl (guard_none rfl) rfl rfl (does_callk rfl callok21 rfl (strings_Split.calls (x0 := x0) (x1 := x1) (HM.tabP htab) h2920)) ?_
    rintro u2921 w2923 ⟨_, rfl, hn⟩
    replace HM : Mem w [] w2923 [own kStr 9 u2921 t2919, own kInt 2 v2872 ([] : List Int)] := HM.call hn
    refine ops_ex rfl (guard_none rfl) rfl rfl (ex_len (d := kStr) (xs := t2919) rfl rfl Tryz.underlying36 (HM.own_rd 0 rfl)) ?_
    refine ops_ex rfl (guard_none rfl) rfl rfl (ex_move rfl rfl) ?_
    refine ops_nil ?_
    refine at_then ?_
    refine run_block ?_
    replace HM := HM.front 1 rfl rfl
    refine run_loop (fun k_ ρ_ w_ => ∃ v2934 : Value, ∃ a2935 : List Int, ∃ a2937 : Int, impl_numbers.l0 t2919 k_ a2935 a2937 = some o2917 ∧ ρ_ = [(5, v2934), (11, u2921), (12, .int .i64 (t2919.length : Int)), (13, .int .i64 a2937)] ∧ Mem w [] w_ [own kInt 2 v2934 a2935, own kStr 9 u2921 t2919]) k (ρ1 := [(5, v2872), (11, u2921), (12, .int .i64 (t2919.length : Int)), (13, .int .i64 0)]) ⟨_, _, _, ho2918, rfl, HM⟩ (Sub.cons rfl (Sub.cons rfl (Sub.cons rfl (Sub.cons rfl Sub.nil)))) ?_
    clear HM ho2918
    rintro k2948 _ w2949 ⟨v2934, a2935, a2937, ho2918, rfl, HM⟩
    obtain _ | k2948 := k2948
    · exact nomatch ((impl_numbers.l0_z t2919 a2935 a2937).symm.trans ho2918)
    replace ho2918 := (impl_numbers.l0_s t2919 k2948 a2935 a2937).symm.trans ho2918
    refine run_seq ?_
    refine run_region rfl ?_
    refine ops_ex rfl (guard_none rfl) rfl rfl (ex_lss rfl rfl rfl) ?_
    refine ops_nil ?_
    refine at_then ?_
    refine run_seq ?_
    refine run_cond (b := (decide (a2937 < (t2919.length : Int)))) rfl (fun hb2950 => ?_) (fun hb2950 => ?_)
    · replace ho2918 := cond_t hb2950 ho2918
      refine run_skip ?_
      refine at_then ?_
      refine run_seq ?_
      refine run_block ?_
      refine run_seq ?_
      obtain ⟨e2951, ho2918⟩ := chk_some ho2918
      refine run_region rfl ?_
      refine ops_ex rfl (guard_none rfl) rfl rfl (ex_indexAddr (d := kStr) rfl rfl rfl Tryz.underlying36 tsz9 (HM.own_rd 1 rfl) (idx_lo e2951) (idx_hi e2951)) ?_
      refine ops_ex rfl (guard_none rfl) rfl rfl (ex_load1 rfl rfl Tryz.underlying9 rfl ((rd_plain (HM.own_rd 1 rfl) e2951) 0 _ rfl)) ?_
      refine ops_ex rfl (guard_none rfl) rfl rfl (ex_assign rfl rfl) ?_
      refine ops_nil ?_
      refine at_then ?_
      obtain ⟨t2952, h2953, ho2918⟩ := bind_some ho2918
      obtain ⟨e2957, ho2918⟩ := chk_some ho2918
      refine run_region rfl ?_
      refine ops_ex rfl (guard_none rfl) rfl rfl (ex_move rfl rfl) ?_
      refine ops_ex rfl (guard_none rfl) rfl rfl (ex_move rfl rfl) ?_
      refine ops_does rfl (guard_none rfl) rfl rfl (does_callk rfl callok24 rfl (impl_number.calls (x0 := (gt t2919 a2937)) (HM.tabP htab) h2953)) ?_
      rintro _ w2960 ⟨rfl, hn⟩
      replace HM : Mem w [] w2960 [own kInt 2 v2934 a2935, own kStr 9 u2921 t2919] := HM.call hn
      refine ops_does rfl (guard_none rfl) rfl rfl (does_lit (e := 2) (cs := [.int .i64 t2952]) (xs := ([t2952] : List Int)) kInt rfl rfl (fun _ => by kernel_rfl) rfl rfl (fun _ _ h => by have h' : _ = [] := h; subst h'; exact (Elems.cons (d := kInt) (x := t2952) (f := []) ⟨rfl, rfl⟩ .nil)) HM.emp) ?_
      rintro v2954 w2961 HM
      replace HM := HM.front 1 rfl rfl
      refine ops_does rfl (guard_none rfl) rfl rfl (does_appendR kInt flat_plain rfl rfl rfl Tryz.underlying42 tsz2 rfl tby2 tz2 rfl rfl (leB_le e2957) (HM.own_rd 1 rfl) HM) ?_
      rintro v2958 w2962 HM
      refine ops_ex rfl (guard_none rfl) rfl rfl (ex_assign rfl rfl) ?_
      refine ops_nil ?_
      refine at_block ?_
      refine at_then ?_
      refine run_region rfl ?_
      refine ops_ex rfl (guard_none rfl) rfl rfl (ex_add rfl rfl rfl) ?_
      refine ops_ex rfl (guard_none rfl) rfl rfl (ex_move rfl rfl) ?_
      refine ops_nil ?_
      replace HM := (HM.front 1 rfl rfl).drop
      exact at_again k2948 (ρ1 := [(5, v2958), (11, u2921), (12, .int .i64 (t2919.length : Int)), (13, .int .i64 (wrap64 (a2937 + 1)))]) (Nat.lt_succ_self _) ⟨_, _, _, ho2918, rfl, HM⟩ (Sub.cons rfl (Sub.cons rfl (Sub.cons rfl (Sub.cons rfl Sub.nil))))
    · replace ho2918 := cond_f hb2950 ho2918
      refine run_exit ?_
      refine at_then_exit ?_
      refine at_then_exit ?_
      refine at_block_exit ?_
      replace HM := (HM.front 1 rfl rfl).drop
      exact at_mid (ρ' := [(5, v2934)]) ⟨_, _, (Option.some.inj ho2918), rfl, HM⟩ (Sub.cons rfl Sub.nil)
  · rintro _ w2963 ⟨v2914, a2915, rfl, rfl, HM⟩
    refine run_seq ?_
    refine run_region rfl ?_
    refine ops_ex rfl (guard_none rfl) rfl rfl (ex_move rfl rfl) ?_
    refine ops_ex rfl (guard_none rfl) rfl rfl (ex_assign rfl rfl) ?_
    refine ops_nil ?_
    refine at_then ?_
    refine run_ret ?_
    have hR := Option.some.inj H
    subst hR
    exact at_ret1 rfl rfl ⟨_, rfl, _, rfl, HM⟩

def impl_within.f (k : Nat) (x0 : Int) (x1 : Int) (x2 : Int) : Option Bool := some ((decide (x1 ≤ x0)) && (decide (x0 ≤ x2)))
theorem impl_within.calls {k : Nat} {x0 : Int} {x1 : Int} {x2 : Int}  {w : World}  {r : Bool} (H : impl_within.f k x0 x1 x2 = some r) :
    Calls Tryz.prog 49 ([.int .i64 x0, .int .i64 x1, .int .i64 x2] : List Value).toArray w (fun e w_ => ∃ v, e = .returned v ∧ v = (.bool r) ∧ Mem w [] w_ []) := by
  have HM := Mem.start w
  refine calls_run (N := 15) Tryz.func49 rfl rfl rfl rfl ?_
  unfold impl_within.f at H
  refine run_seq ?_
  refine run_region rfl ?_
  refine ops_ex rfl (guard_none rfl) rfl rfl (ex_assign rfl rfl) ?_
  refine ops_nil ?_
  refine at_then ?_
  refine run_seq ?_
  refine run_meet (fun ρ_ w_ => ρ_ = [(6, .bool ((decide (x1 ≤ x0)) && (decide (x0 ≤ x2))))] ∧ Mem w [] w_ []) ?_ ?_
  · skip
    refine run_region rfl ?_
    refine ops_ex rfl (guard_none rfl) rfl rfl (ex_move rfl rfl) ?_
    refine ops_ex rfl (guard_none rfl) rfl rfl (ex_move rfl rfl) ?_
    refine ops_ex rfl (guard_none rfl) rfl rfl (ex_geq rfl rfl rfl) ?_
    refine ops_ex rfl (guard_none rfl) rfl rfl (ex_move rfl rfl) ?_
    refine bool_cases (decide (x1 ≤ x0)) (fun hg2985 => ?_) (fun hg2985 => ?_)
    · skip
      refine ops_ex rfl (guard_on rfl rfl rfl hg2985) rfl rfl (ex_move rfl rfl) ?_
      refine ops_ex rfl (guard_on rfl rfl rfl hg2985) rfl rfl (ex_move rfl rfl) ?_
      refine ops_ex rfl (guard_on rfl rfl rfl hg2985) rfl rfl (ex_leq rfl rfl rfl) ?_
      refine ops_ex (v := .bool ((decide (x1 ≤ x0)) && (decide (x0 ≤ x2)))) rfl (guard_none rfl) rfl rfl (ex_pand_t rfl rfl hg2985 rfl) ?_
      refine ops_ex rfl (guard_none rfl) rfl rfl (ex_assign rfl rfl) ?_
      refine ops_nil ?_
      exact at_meet [(6, .bool ((decide (x1 ≤ x0)) && (decide (x0 ≤ x2))))] ⟨rfl, HM⟩ (Sub.cons rfl Sub.nil)
    · skip
      refine ops_off rfl (guard_off rfl rfl rfl hg2985) rfl rfl ?_
      refine ops_off rfl (guard_off rfl rfl rfl hg2985) rfl rfl ?_
      refine ops_off rfl (guard_off rfl rfl rfl hg2985) rfl rfl ?_
      have hg2986 : ((decide (x1 ≤ x0)) && (decide (x0 ≤ x2))) = false := by simp only [hg2985, Bool.and_true, Bool.true_and, Bool.and_false, Bool.false_and, Bool.or_true, Bool.true_or, Bool.or_false, Bool.false_or, Bool.not_true, Bool.not_false, Bool.not_not]
      refine ops_ex (v := .bool ((decide (x1 ≤ x0)) && (decide (x0 ≤ x2)))) rfl (guard_none rfl) rfl rfl (ex_pand_f rfl rfl hg2985) ?_
      refine ops_ex rfl (guard_none rfl) rfl rfl (ex_assign rfl rfl) ?_
      refine ops_nil ?_
      exact at_meet [(6, .bool ((decide (x1 ≤ x0)) && (decide (x0 ≤ x2))))] ⟨rfl, HM⟩ (Sub.cons rfl Sub.nil)
  · rintro _ w2987 ⟨rfl, HM⟩
    refine at_then ?_
    refine run_ret ?_
    have hR := Option.some.inj H
    subst hR
    exact at_ret1 rfl rfl ⟨_, rfl, rfl, HM⟩

def impl_isKey.f (k : Nat) (x0 : Int) : Option Bool := ((impl_within.f k x0 1 999).bind fun t2996 => some t2996)
theorem impl_isKey.calls {k : Nat} {x0 : Int}  {w : World}  {r : Bool} (H : impl_isKey.f k x0 = some r) :
    Calls Tryz.prog 50 ([.int .i64 x0] : List Value).toArray w (fun e w_ => ∃ v, e = .returned v ∧ v = (.bool r) ∧ Mem w [] w_ []) := by
  have HM := Mem.start w
  refine calls_run (N := 5) Tryz.func50 rfl rfl rfl rfl ?_
  unfold impl_isKey.f at H
  refine run_seq ?_
  refine run_region rfl ?_
  refine ops_ex rfl (guard_none rfl) rfl rfl (ex_assign rfl rfl) ?_
  refine ops_nil ?_
  refine at_then ?_
  refine run_seq ?_
  obtain ⟨t2996, h2997, H⟩ := bind_some H
  refine run_region rfl ?_
  refine ops_ex rfl (guard_none rfl) rfl rfl (ex_move rfl rfl) ?_
  refine ops_does rfl (guard_none rfl) rfl rfl (does_callk rfl callok49 rfl (impl_within.calls (x0 := x0) (x1 := 1) (x2 := 999) h2997)) ?_
  rintro _ w2998 ⟨rfl, hn⟩
  replace HM : Mem w [] w2998 [] := HM.call hn
  refine ops_ex rfl (guard_none rfl) rfl rfl (ex_assign rfl rfl) ?_
  refine ops_nil ?_
  refine at_then ?_
  refine run_ret ?_
  have hR := Option.some.inj H
  subst hR
  exact at_ret1 rfl rfl ⟨_, rfl, rfl, HM⟩

def impl_areKeys_1.f (k : Nat) (x0 : Int) : Option Bool := ((impl_isKey.f k x0).bind fun t3001 => some (!t3001))
theorem impl_areKeys_1.calls {k : Nat} {x0 : Int}  {w : World}  {r : Bool} (H : impl_areKeys_1.f k x0 = some r) :
    Calls Tryz.prog 109 ([.int .i64 x0] : List Value).toArray w (fun e w_ => ∃ v, e = .returned v ∧ v = (.bool r) ∧ Mem w [] w_ []) := by
  have HM := Mem.start w
  refine calls_run (N := 6) Tryz.func109 rfl rfl rfl rfl ?_
  unfold impl_areKeys_1.f at H
  refine run_seq ?_
  refine run_region rfl ?_
  refine ops_ex rfl (guard_none rfl) rfl rfl (ex_assign rfl rfl) ?_
  refine ops_nil ?_
  refine at_then ?_
  refine run_seq ?_
  obtain ⟨t3001, h3002, H⟩ := bind_some H
  refine run_region rfl ?_
  refine ops_ex rfl (guard_none rfl) rfl rfl (ex_move rfl rfl) ?_
  refine ops_does rfl (guard_none rfl) rfl rfl (does_callk rfl callok50 rfl (impl_isKey.calls (x0 := x0) h3002)) ?_
  rintro _ w3003 ⟨rfl, hn⟩
  replace HM : Mem w [] w3003 [] := HM.call hn
  refine ops_ex rfl (guard_none rfl) rfl rfl (ex_not rfl rfl) ?_
  refine ops_ex rfl (guard_none rfl) rfl rfl (ex_assign rfl rfl) ?_
  refine ops_nil ?_
  refine at_then ?_
  refine run_ret ?_
  have hR := Option.some.inj H
  subst hR
  exact at_ret1 rfl rfl ⟨_, rfl, rfl, HM⟩

def slices_IndexFunc_int64.l0 (x0 : List Int) : Nat → Int → Option (Int ⊕ Unit)
  | 0, _ => none
  | k + 1, a3049 => (bif (decide (a3049 < (x0.length : Int))) then (chk (idxOk a3049 x0.length) ((impl_areKeys_1.f k (gt x0 a3049)).bind fun t3061 => (bif t3061 then some (.inl a3049) else slices_IndexFunc_int64.l0 x0 k (wrap64 (a3049 + 1))))) else some (.inr ()))
theorem slices_IndexFunc_int64.l0_z (x0 : List Int) (a3049 : Int) : slices_IndexFunc_int64.l0 x0 0 a3049 = none := rfl
theorem slices_IndexFunc_int64.l0_s (x0 : List Int) (k : Nat) (a3049 : Int) : slices_IndexFunc_int64.l0 x0 (k + 1) a3049 = (bif (decide (a3049 < (x0.length : Int))) then (chk (idxOk a3049 x0.length) ((impl_areKeys_1.f k (gt x0 a3049)).bind fun t3061 => (bif t3061 then some (.inl a3049) else slices_IndexFunc_int64.l0 x0 k (wrap64 (a3049 + 1))))) else some (.inr ())) := rfl
def slices_IndexFunc_int64.f (k : Nat) (x0 : List Int) : Option Int := ((slices_IndexFunc_int64.l0 x0 k 0).bind fun o3041 => thn o3041 (fun r => some r) (fun _ => some (-1)))
theorem slices_IndexFunc_int64.calls {k : Nat} {x0 : List Int} {p0 : Value} {w : World} (hp0 : RdS kInt w p0 x0) {r : Int} (H : slices_IndexFunc_int64.f k x0 = some r) :
    Calls Tryz.prog 118 ([p0, .func (.func 109) #[] #[]] : List Value).toArray w (fun e w_ => ∃ v, e = .returned v ∧ v = (.int .i64 r) ∧ Mem w [] w_ []) := by
  have HM := Mem.start w
  refine calls_run (N := 19) Tryz.func118 rfl rfl rfl rfl ?_
  unfold slices_IndexFunc_int64.f at H
  refine run_seq ?_
  refine run_region rfl ?_
  refine ops_ex rfl (guard_none rfl) rfl rfl (ex_assign rfl rfl) ?_
  refine ops_nil ?_
  refine at_then ?_
  obtain ⟨o3041, ho3042, H⟩ := bind_some H
  refine run_mid (fun ρ_ w_ => Sum.inr () = o3041 ∧ ρ_ = [] ∧ Mem w [] w_ []) ?_ ?_
  · skip
    refine run_seq ?_
    refine run_region rfl ?_
    refine ops_ex rfl (guard_none rfl) rfl rfl (ex_move rfl rfl) ?_
    refine ops_ex rfl (guard_none rfl) rfl rfl (ex_len (d := kInt) (xs := x0) rfl rfl Tryz.underlying42 hp0) ?_
    refine ops_ex rfl (guard_none rfl) rfl rfl (ex_move rfl rfl) ?_
    refine ops_nil ?_
    refine at_then ?_
    refine run_block ?_
    refine run_loop (fun k_ ρ_ w_ => ∃ a3049 : Int, slices_IndexFunc_int64.l0 x0 k_ a3049 = some o3041 ∧ ρ_ = [(0, p0), (1, .func (.func 109) #[] #[]), (7, .int .i64 (x0.length : Int)), (8, .int .i64 a3049)] ∧ Mem w [] w_ []) k (ρ1 := [(0, p0), (1, .func (.func 109) #[] #[]), (7, .int .i64 (x0.length : Int)), (8, .int .i64 0)]) ⟨_, ho3042, rfl, HM⟩ (Sub.cons rfl (Sub.cons rfl (Sub.cons rfl (Sub.cons rfl Sub.nil)))) ?_
    clear HM ho3042
    rintro k3056 _ w3057 ⟨a3049, ho3042, rfl, HM⟩
    obtain _ | k3056 := k3056
    · exact nomatch ((slices_IndexFunc_int64.l0_z x0 a3049).symm.trans ho3042)
    replace ho3042 := (slices_IndexFunc_int64.l0_s x0 k3056 a3049).symm.trans ho3042
    refine run_seq ?_
    refine run_region rfl ?_
    refine ops_ex rfl (guard_none rfl) rfl rfl (ex_lss rfl rfl rfl) ?_
    refine ops_nil ?_
    refine at_then ?_
    refine run_seq ?_
    refine run_cond (b := (decide (a3049 < (x0.length : Int)))) rfl (fun hb3058 => ?_) (fun hb3058 => ?_)
    · replace ho3042 := cond_t hb3058 ho3042
      refine run_skip ?_
      refine at_then ?_
      refine run_seq ?_
      refine run_block ?_
      refine run_seq ?_
      refine run_region rfl ?_
      refine ops_ex rfl (guard_none rfl) rfl rfl (ex_move rfl rfl) ?_
      refine ops_ex rfl (guard_none rfl) rfl rfl (ex_assign rfl rfl) ?_
      refine ops_nil ?_
      refine at_then ?_
      refine run_seq ?_
      obtain ⟨e3059, ho3042⟩ := chk_some ho3042
      obtain ⟨t3061, h3062, ho3042⟩ := bind_some ho3042
      refine run_region rfl ?_
      refine ops_ex rfl (guard_none rfl) rfl rfl (ex_move rfl rfl) ?_
      refine ops_ex rfl (guard_none rfl) rfl rfl (ex_move rfl rfl) ?_
      refine ops_ex rfl (guard_none rfl) rfl rfl (ex_move rfl rfl) ?_
      have hc3060 : CellsAt _ (sb p0) (so p0 + (a3049).toNat * 1) [(.int .i64 (gt x0 a3049))] := rd_plain hp0 e3059
      refine ops_ex rfl (guard_none rfl) rfl rfl (ex_indexAddr (d := kInt) rfl rfl rfl Tryz.underlying42 tsz2 hp0 (idx_lo e3059) (idx_hi e3059)) ?_
      refine ops_ex rfl (guard_none rfl) rfl rfl (ex_load1 rfl rfl Tryz.underlying2 rfl ((HM.at_ hc3060) 0 _ rfl)) ?_
      refine ops_does rfl (guard_none rfl) rfl rfl (does_callvk rfl callok109 rfl rfl rfl (impl_areKeys_1.calls (x0 := (gt x0 a3049)) h3062)) ?_
      rintro _ w3063 ⟨rfl, hn⟩
      replace HM : Mem w [] w3063 [] := HM.call hn
      refine ops_nil ?_
      refine at_then ?_
      refine run_cond (b := t3061) rfl (fun hb3064 => ?_) (fun hb3064 => ?_)
      · replace ho3042 := cond_t hb3064 ho3042
        refine run_seq ?_
        refine run_region rfl ?_
        refine ops_ex rfl (guard_none rfl) rfl rfl (ex_move rfl rfl) ?_
        refine ops_ex rfl (guard_none rfl) rfl rfl (ex_assign rfl rfl) ?_
        refine ops_nil ?_
        refine at_then ?_
        refine run_ret ?_
        refine at_block_ret ?_
        refine at_then_ret ?_
        refine at_then_ret ?_
        refine at_block_ret ?_
        refine at_then_ret ?_
        have hR := Option.some.inj ho3042
        subst hR
        have hT := thn_inl H
        have hR := Option.some.inj hT
        subst hR
        exact at_ret1 rfl rfl ⟨_, rfl, rfl, HM⟩
      · replace ho3042 := cond_f hb3064 ho3042
        refine run_skip ?_
        refine at_block ?_
        refine at_then ?_
        refine run_region rfl ?_
        refine ops_ex rfl (guard_none rfl) rfl rfl (ex_add rfl rfl rfl) ?_
        refine ops_ex rfl (guard_none rfl) rfl rfl (ex_move rfl rfl) ?_
        refine ops_nil ?_
        exact at_again k3056 (ρ1 := [(0, p0), (1, .func (.func 109) #[] #[]), (7, .int .i64 (x0.length : Int)), (8, .int .i64 (wrap64 (a3049 + 1)))]) (Nat.lt_succ_self _) ⟨_, ho3042, rfl, HM⟩ (Sub.cons rfl (Sub.cons rfl (Sub.cons rfl (Sub.cons rfl Sub.nil))))
    · replace ho3042 := cond_f hb3058 ho3042
      refine run_exit ?_
      refine at_then_exit ?_
      refine at_then_exit ?_
      refine at_block_exit ?_
      exact at_mid (ρ' := []) ⟨(Option.some.inj ho3042), rfl, HM⟩ Sub.nil
  · rintro _ w3065 ⟨rfl, rfl, HM⟩
    replace H := (thn_inr H)
    refine run_seq ?_
    refine run_region rfl ?_
    refine ops_ex rfl (guard_none rfl) rfl rfl (ex_assign rfl rfl) ?_
    refine ops_nil ?_
    refine at_then ?_
    refine run_ret ?_
    have hR := Option.some.inj H
    subst hR
    exact at_ret1 rfl rfl ⟨_, rfl, rfl, HM⟩

def slices_ContainsFunc_int64.f (k : Nat) (x0 : List Int) : Option Bool := ((slices_IndexFunc_int64.f k x0).bind fun t3068 => some (decide (0 ≤ t3068)))
theorem slices_ContainsFunc_int64.calls {k : Nat} {x0 : List Int} {p0 : Value} {w : World} (hp0 : RdS kInt w p0 x0) {r : Bool} (H : slices_ContainsFunc_int64.f k x0 = some r) :
    Calls Tryz.prog 108 ([p0, .func (.func 109) #[] #[]] : List Value).toArray w (fun e w_ => ∃ v, e = .returned v ∧ v = (.bool r) ∧ Mem w [] w_ []) := by
  have HM := Mem.start w
  refine calls_run (N := 9) Tryz.func108 rfl rfl rfl rfl ?_
  unfold slices_ContainsFunc_int64.f at H
  refine run_seq ?_
  refine run_region rfl ?_
  refine ops_ex rfl (guard_none rfl) rfl rfl (ex_assign rfl rfl) ?_
  refine ops_nil ?_
  refine at_then ?_
  refine run_seq ?_
  obtain ⟨t3068, h3069, H⟩ := bind_some H
  refine run_region rfl ?_
  refine ops_ex rfl (guard_none rfl) rfl rfl (ex_move rfl rfl) ?_
  refine ops_ex rfl (guard_none rfl) rfl rfl (ex_move rfl rfl) ?_
  refine ops_does rfl (guard_none rfl) rfl rfl (does_callk rfl callok118 rfl (slices_IndexFunc_int64.calls (x0 := x0) (HM.rd hp0) h3069)) ?_
  rintro _ w3070 ⟨rfl, hn⟩
  replace HM : Mem w [] w3070 [] := HM.call hn
  refine ops_ex rfl (guard_none rfl) rfl rfl (ex_geq rfl rfl rfl) ?_
  refine ops_ex rfl (guard_none rfl) rfl rfl (ex_assign rfl rfl) ?_
  refine ops_nil ?_
  refine at_then ?_
  refine run_ret ?_
  have hR := Option.some.inj H
  subst hR
  exact at_ret1 rfl rfl ⟨_, rfl, rfl, HM⟩

def impl_areKeys.f (k : Nat) (x0 : List Int) : Option Bool := ((slices_ContainsFunc_int64.f k x0).bind fun t3073 => some (!t3073))
theorem impl_areKeys.calls {k : Nat} {x0 : List Int} {p0 : Value} {w : World} (hp0 : RdS kInt w p0 x0) {r : Bool} (H : impl_areKeys.f k x0 = some r) :
    Calls Tryz.prog 90 ([p0] : List Value).toArray w (fun e w_ => ∃ v, e = .returned v ∧ v = (.bool r) ∧ Mem w [] w_ []) := by
  have HM := Mem.start w
  refine calls_run (N := 6) Tryz.func90 rfl rfl rfl rfl ?_
  unfold impl_areKeys.f at H
  refine run_seq ?_
  refine run_region rfl ?_
  refine ops_ex rfl (guard_none rfl) rfl rfl (ex_assign rfl rfl) ?_
  refine ops_nil ?_
  refine at_then ?_
  refine run_seq ?_
  obtain ⟨t3073, h3074, H⟩ := bind_some H
  refine run_region rfl ?_
  refine ops_ex rfl (guard_none rfl) rfl rfl (ex_move rfl rfl) ?_
  refine ops_does rfl (guard_none rfl) rfl rfl (does_callk rfl callok108 rfl (slices_ContainsFunc_int64.calls (x0 := x0) (HM.rd hp0) h3074)) ?_
  rintro _ w3075 ⟨rfl, hn⟩
  replace HM : Mem w [] w3075 [] := HM.call hn
  refine ops_ex rfl (guard_none rfl) rfl rfl (ex_not rfl rfl) ?_
  refine ops_ex rfl (guard_none rfl) rfl rfl (ex_assign rfl rfl) ?_
  refine ops_nil ?_
  refine at_then ?_
  refine run_ret ?_
  have hR := Option.some.inj H
  subst hR
  exact at_ret1 rfl rfl ⟨_, rfl, rfl, HM⟩

def impl_isHeight.f (k : Nat) (x0 : Int) : Option Bool := ((impl_within.f k x0 0 999).bind fun t3082 => some t3082)
theorem impl_isHeight.calls {k : Nat} {x0 : Int}  {w : World}  {r : Bool} (H : impl_isHeight.f k x0 = some r) :
    Calls Tryz.prog 91 ([.int .i64 x0] : List Value).toArray w (fun e w_ => ∃ v, e = .returned v ∧ v = (.bool r) ∧ Mem w [] w_ []) := by
  have HM := Mem.start w
  refine calls_run (N := 5) Tryz.func91 rfl rfl rfl rfl ?_
  unfold impl_isHeight.f at H
  refine run_seq ?_
  refine run_region rfl ?_
  refine ops_ex rfl (guard_none rfl) rfl rfl (ex_assign rfl rfl) ?_
  refine ops_nil ?_
  refine at_then ?_
  refine run_seq ?_
  obtain ⟨t3082, h3083, H⟩ := bind_some H
  refine run_region rfl ?_
  refine ops_ex rfl (guard_none rfl) rfl rfl (ex_move rfl rfl) ?_
  refine ops_does rfl (guard_none rfl) rfl rfl (does_callk rfl callok49 rfl (impl_within.calls (x0 := x0) (x1 := 0) (x2 := 999) h3083)) ?_
  rintro _ w3084 ⟨rfl, hn⟩
  replace HM : Mem w [] w3084 [] := HM.call hn
  refine ops_ex rfl (guard_none rfl) rfl rfl (ex_assign rfl rfl) ?_
  refine ops_nil ?_
  refine at_then ?_
  refine run_ret ?_
  have hR := Option.some.inj H
  subst hR
  exact at_ret1 rfl rfl ⟨_, rfl, rfl, HM⟩

def impl_isRising.l0 (x0 : List Int) : Nat → Int → Option (Bool ⊕ Unit)
  | 0, _ => none
  | k + 1, a3136 => (bif (decide (a3136 < (x0.length : Int))) then (chk (idxOk a3136 x0.length) (chk (idxOk (wrap64 (a3136 - 1)) x0.length) (bif (decide ((gt x0 a3136) ≤ (gt x0 (wrap64 (a3136 - 1))))) then some (.inl false) else impl_isRising.l0 x0 k (wrap64 (a3136 + 1))))) else some (.inr ()))
theorem impl_isRising.l0_z (x0 : List Int) (a3136 : Int) : impl_isRising.l0 x0 0 a3136 = none := rfl
theorem impl_isRising.l0_s (x0 : List Int) (k : Nat) (a3136 : Int) : impl_isRising.l0 x0 (k + 1) a3136 = (bif (decide (a3136 < (x0.length : Int))) then (chk (idxOk a3136 x0.length) (chk (idxOk (wrap64 (a3136 - 1)) x0.length) (bif (decide ((gt x0 a3136) ≤ (gt x0 (wrap64 (a3136 - 1))))) then some (.inl false) else impl_isRising.l0 x0 k (wrap64 (a3136 + 1))))) else some (.inr ())) := rfl
def impl_isRising.f (k : Nat) (x0 : List Int) : Option Bool := ((impl_isRising.l0 x0 k 1).bind fun o3128 => thn o3128 (fun r => some r) (fun _ => some true))
theorem impl_isRising.calls {k : Nat} {x0 : List Int} {p0 : Value} {w : World} (hp0 : RdS kInt w p0 x0) {r : Bool} (H : impl_isRising.f k x0 = some r) :
    Calls Tryz.prog 92 ([p0] : List Value).toArray w (fun e w_ => ∃ v, e = .returned v ∧ v = (.bool r) ∧ Mem w [] w_ []) := by
  have HM := Mem.start w
  refine calls_run (N := 20) Tryz.func92 rfl rfl rfl rfl ?_
  unfold impl_isRising.f at H
  refine run_seq ?_
  refine run_region rfl ?_
  refine ops_ex rfl (guard_none rfl) rfl rfl (ex_assign rfl rfl) ?_
  refine ops_nil ?_
  refine at_then ?_
  obtain ⟨o3128, ho3129, H⟩ := bind_some H
  refine run_mid (fun ρ_ w_ => Sum.inr () = o3128 ∧ ρ_ = [] ∧ Mem w [] w_ []) ?_ ?_
  · skip
    refine run_seq ?_
    refine run_region rfl ?_
    refine ops_ex rfl (guard_none rfl) rfl rfl (ex_assign rfl rfl) ?_
    refine ops_nil ?_
    refine at_then ?_
    refine run_block ?_
    refine run_loop (fun k_ ρ_ w_ => ∃ a3136 : Int, impl_isRising.l0 x0 k_ a3136 = some o3128 ∧ ρ_ = [(0, p0), (3, .int .i64 a3136)] ∧ Mem w [] w_ []) k (ρ1 := [(0, p0), (3, .int .i64 1)]) ⟨_, ho3129, rfl, HM⟩ (Sub.cons rfl (Sub.cons rfl Sub.nil)) ?_
    clear HM ho3129
    rintro k3143 _ w3144 ⟨a3136, ho3129, rfl, HM⟩
    obtain _ | k3143 := k3143
    · exact nomatch ((impl_isRising.l0_z x0 a3136).symm.trans ho3129)
    replace ho3129 := (impl_isRising.l0_s x0 k3143 a3136).symm.trans ho3129
    refine run_seq ?_
    refine run_seq ?_
    refine run_region rfl ?_
    refine ops_ex rfl (guard_none rfl) rfl rfl (ex_move rfl rfl) ?_
    refine ops_ex rfl (guard_none rfl) rfl rfl (ex_move rfl rfl) ?_
    refine ops_ex rfl (guard_none rfl) rfl rfl (ex_len (d := kInt) (xs := x0) rfl rfl Tryz.underlying42 hp0) ?_
    refine ops_ex rfl (guard_none rfl) rfl rfl (ex_lss rfl rfl rfl) ?_
    refine ops_nil ?_
    refine at_then ?_
    refine run_cond (b := (decide (a3136 < (x0.length : Int)))) rfl (fun hb3145 => ?_) (fun hb3145 => ?_)
    · replace ho3129 := cond_t hb3145 ho3129
      refine run_skip ?_
      refine at_then ?_
      refine run_seq ?_
      refine run_block ?_
      refine run_seq ?_
      obtain ⟨e3146, ho3129⟩ := chk_some ho3129
      obtain ⟨e3148, ho3129⟩ := chk_some ho3129
      refine run_drawf (fun w_ => Mem w [] w_ []) [(0, true), (1, true), (2, true), (3, true), (4, true), (5, true), (6, true), (7, true), (8, true), (9, true)] mixed rfl rfl (by kernel_rfl) ?_
      replace HM := HM.grow (fr_drew _)
      have hS := Mem.suf (M := []) HM
      refine drwp_take rfl (guard_none rfl) rfl rfl (fun w_ hS_ => (ex_move rfl rfl)) hS ?_
      refine drwp_take rfl (guard_none rfl) rfl rfl (fun w_ hS_ => (ex_move rfl rfl)) hS ?_
      have hc3147 : CellsAt _ (sb p0) (so p0 + (a3136).toNat * 1) [(.int .i64 (gt x0 a3136))] := rd_plain hp0 e3146
      refine drwp_take rfl (guard_none rfl) rfl rfl (fun w_ hS_ => (ex_indexAddr (d := kInt) rfl rfl rfl Tryz.underlying42 tsz2 hp0 (idx_lo e3146) (idx_hi e3146))) hS ?_
      refine drwp_take rfl (guard_none rfl) rfl rfl (fun w_ hS_ => (ex_load1 rfl rfl Tryz.underlying2 rfl ((hS_.at_ hc3147) 0 _ rfl))) hS ?_
      refine drwp_take rfl (guard_none rfl) rfl rfl (fun w_ hS_ => (ex_move rfl rfl)) hS ?_
      refine drwp_take rfl (guard_none rfl) rfl rfl (fun w_ hS_ => (ex_move rfl rfl)) hS ?_
      refine drwp_take rfl (guard_none rfl) rfl rfl (fun w_ hS_ => (ex_sub rfl rfl rfl)) hS ?_
      have hc3149 : CellsAt _ (sb p0) (so p0 + (wrap64 (a3136 - 1)).toNat * 1) [(.int .i64 (gt x0 (wrap64 (a3136 - 1))))] := rd_plain hp0 e3148
      refine drwp_take rfl (guard_none rfl) rfl rfl (fun w_ hS_ => (ex_indexAddr (d := kInt) rfl rfl rfl Tryz.underlying42 tsz2 hp0 (idx_lo e3148) (idx_hi e3148))) hS ?_
      refine drwp_take rfl (guard_none rfl) rfl rfl (fun w_ hS_ => (ex_load1 rfl rfl Tryz.underlying2 rfl ((hS_.at_ hc3149) 0 _ rfl))) hS ?_
      refine drwp_take rfl (guard_none rfl) rfl rfl (fun w_ hS_ => (ex_leq rfl rfl rfl)) hS ?_
      refine drwp_done ?_
      refine at_then ?_
      refine run_cond (b := (decide ((gt x0 a3136) ≤ (gt x0 (wrap64 (a3136 - 1)))))) rfl (fun hb3150 => ?_) (fun hb3150 => ?_)
      · replace ho3129 := cond_t hb3150 ho3129
        refine run_seq ?_
        refine run_region rfl ?_
        refine ops_ex rfl (guard_none rfl) rfl rfl (ex_assign rfl rfl) ?_
        refine ops_nil ?_
        refine at_then ?_
        refine run_ret ?_
        refine at_block_ret ?_
        refine at_then_ret ?_
        refine at_then_ret ?_
        refine at_block_ret ?_
        refine at_then_ret ?_
        have hR := Option.some.inj ho3129
        subst hR
        have hT := thn_inl H
        have hR := Option.some.inj hT
        subst hR
        exact at_ret1 rfl rfl ⟨_, rfl, rfl, HM⟩
      · replace ho3129 := cond_f hb3150 ho3129
        refine run_skip ?_
        refine at_block ?_
        refine at_then ?_
        refine run_region rfl ?_
        refine ops_ex rfl (guard_none rfl) rfl rfl (ex_move rfl rfl) ?_
        refine ops_ex rfl (guard_none rfl) rfl rfl (ex_add rfl rfl rfl) ?_
        refine ops_ex rfl (guard_none rfl) rfl rfl (ex_assign rfl rfl) ?_
        refine ops_nil ?_
        exact at_again k3143 (ρ1 := [(0, p0), (3, .int .i64 (wrap64 (a3136 + 1)))]) (Nat.lt_succ_self _) ⟨_, ho3129, rfl, HM⟩ (Sub.cons rfl (Sub.cons rfl Sub.nil))
    · replace ho3129 := cond_f hb3145 ho3129
      refine run_exit ?_
      refine at_then_exit ?_
      refine at_then_exit ?_
      refine at_block_exit ?_
      exact at_mid (ρ' := []) ⟨(Option.some.inj ho3129), rfl, HM⟩ Sub.nil
  · rintro _ w3151 ⟨rfl, rfl, HM⟩
    replace H := (thn_inr H)
    refine run_seq ?_
    refine run_region rfl ?_
    refine ops_ex rfl (guard_none rfl) rfl rfl (ex_assign rfl rfl) ?_
    refine ops_nil ?_
    refine at_then ?_
    refine run_ret ?_
    have hR := Option.some.inj H
    subst hR
    exact at_ret1 rfl rfl ⟨_, rfl, rfl, HM⟩

def impl_RuleFault.f (k : Nat) (x0 : Rule) : Option Int := ((impl_within.f k (x0.fKeys.length : Int) 1 3).bind fun t3159 => (bif !t3159 then some 2 else ((impl_areKeys.f k x0.fKeys).bind fun t3163 => ((bif (!(!t3163)) then impl_within.f k x0.fNeed 1 (x0.fKeys.length : Int) else some default).bind fun t3165 => ((bif (!((!t3163) || (!t3165))) then impl_isHeight.f k x0.fAfter else some default).bind fun t3167 => (bif (((!t3163) || (!t3165)) || (!t3167)) then some 3 else ((impl_isRising.f k x0.fKeys).bind fun t3179 => (bif !t3179 then some 1 else some 0))))))))
theorem impl_RuleFault.calls {k : Nat} {x0 : Rule} {p0_0 : Value} {w : World} (hp0_0 : RdS kInt w p0_0 x0.fKeys) {r : Int} (H : impl_RuleFault.f k x0 = some r) :
    Calls Tryz.prog 69 ([.agg #[p0_0, (.int .i64 x0.fNeed), (.int .i64 x0.fAfter)]] : List Value).toArray w (fun e w_ => ∃ v, e = .returned v ∧ v = (.int .i64 r) ∧ Mem w [] w_ []) := by
  have HM := Mem.start w
  refine calls_run (N := 34) Tryz.func69 rfl rfl rfl rfl ?_
  unfold impl_RuleFault.f at H
  refine run_seq ?_
  refine run_region rfl ?_
  refine ops_does rfl (guard_none rfl) rfl rfl (does_box (cs := [p0_0, .int .i64 x0.fNeed, .int .i64 x0.fAfter]) rfl rfl rfl HM) ?_
  rintro _ w3158 ⟨b3155, rfl, HM⟩
  refine ops_ex rfl (guard_none rfl) rfl rfl (ex_assign rfl rfl) ?_
  refine ops_nil ?_
  refine at_then ?_
  refine run_seq ?_
  refine run_region rfl ?_
  refine ops_ex rfl (guard_none rfl) rfl rfl (ex_fieldAddr (off' := 0) rfl rfl Tryz.underlying44 rfl tsz42 rfl) ?_
  refine ops_ex rfl (guard_none rfl) rfl rfl (ex_load1 rfl rfl Tryz.underlying42 rfl ((HM.box_at 0 rfl) 0 _ rfl)) ?_
  refine ops_ex rfl (guard_none rfl) rfl rfl (ex_len (d := kInt) (xs := x0.fKeys) rfl rfl Tryz.underlying42 hp0_0) ?_
  refine ops_ex rfl (guard_none rfl) rfl rfl (ex_assign rfl rfl) ?_
  refine ops_nil ?_
  refine at_then ?_
  refine run_seq ?_
  refine run_block ?_
  refine run_seq ?_
  obtain ⟨t3159, h3160, H⟩ := bind_some H
  refine run_region rfl ?_
  refine ops_ex rfl (guard_none rfl) rfl rfl (ex_move rfl rfl) ?_
  refine ops_does rfl (guard_none rfl) rfl rfl (does_callk rfl callok49 rfl (impl_within.calls (x0 := (x0.fKeys.length : Int)) (x1 := 1) (x2 := 3) h3160)) ?_
  rintro _ w3161 ⟨rfl, hn⟩
  replace HM : Mem w [] w3161 [box b3155 44 [p0_0, .int .i64 x0.fNeed, .int .i64 x0.fAfter]] := HM.call hn
  refine ops_ex rfl (guard_none rfl) rfl rfl (ex_not rfl rfl) ?_
  refine ops_ex rfl (guard_none rfl) rfl rfl (ex_assign rfl rfl) ?_
  refine ops_nil ?_
  refine at_then ?_
  refine run_cond (b := !t3159) rfl (fun hb3162 => ?_) (fun hb3162 => ?_)
  · replace H := cond_t hb3162 H
    refine run_seq ?_
    refine run_region rfl ?_
    refine ops_ex rfl (guard_none rfl) rfl rfl (ex_assign rfl rfl) ?_
    refine ops_nil ?_
    refine at_then ?_
    refine run_ret ?_
    refine at_block_ret ?_
    refine at_then_ret ?_
    replace HM := (HM.front 0 rfl rfl).drop
    have hR := Option.some.inj H
    subst hR
    exact at_ret1 rfl rfl ⟨_, rfl, rfl, HM⟩
  · replace H := cond_f hb3162 H
    refine run_seq ?_
    obtain ⟨t3163, h3164, H⟩ := bind_some H
    obtain ⟨t3165, h3166, H⟩ := bind_some H
    obtain ⟨t3167, h3168, H⟩ := bind_some H
    refine run_meet (fun ρ_ w_ => ρ_ = [(1, .pointer (some ⟨b3155, 0, none⟩)), (11, .bool (((!t3163) || (!t3165)) || (!t3167)))] ∧ Mem w [] w_ [box b3155 44 [p0_0, .int .i64 x0.fNeed, .int .i64 x0.fAfter]]) ?_ ?_
    · skip
      refine run_region rfl ?_
      refine ops_ex rfl (guard_none rfl) rfl rfl (ex_fieldAddr (off' := 0) rfl rfl Tryz.underlying44 rfl tsz42 rfl) ?_
      refine ops_ex rfl (guard_none rfl) rfl rfl (ex_load1 rfl rfl Tryz.underlying42 rfl ((HM.box_at 0 rfl) 0 _ rfl)) ?_
      refine ops_does rfl (guard_none rfl) rfl rfl (does_callk rfl callok90 rfl (impl_areKeys.calls (x0 := x0.fKeys) (HM.rd hp0_0) h3164)) ?_
      rintro _ w3169 ⟨rfl, hn⟩
      replace HM : Mem w [] w3169 [box b3155 44 [p0_0, .int .i64 x0.fNeed, .int .i64 x0.fAfter]] := HM.call hn
      refine ops_ex rfl (guard_none rfl) rfl rfl (ex_not rfl rfl) ?_
      refine ops_ex rfl (guard_none rfl) rfl rfl (ex_move rfl rfl) ?_
      refine bool_cases (!t3163) (fun hg3170 => ?_) (fun hg3170 => ?_)
      · skip
        refine ops_off rfl (guard_off rfl rfl rfl hg3170) rfl rfl ?_
        refine ops_off rfl (guard_off rfl rfl rfl hg3170) rfl rfl ?_
        refine ops_off rfl (guard_off rfl rfl rfl hg3170) rfl rfl ?_
        refine ops_off rfl (guard_off rfl rfl rfl hg3170) rfl rfl ?_
        refine ops_off rfl (guard_off rfl rfl rfl hg3170) rfl rfl ?_
        have hg3171 : ((!t3163) || (!t3165)) = true := by simp only [hg3170, Bool.and_true, Bool.true_and, Bool.and_false, Bool.false_and, Bool.or_true, Bool.true_or, Bool.or_false, Bool.false_or, Bool.not_true, Bool.not_false, Bool.not_not]
        refine ops_ex (v := .bool ((!t3163) || (!t3165))) rfl (guard_none rfl) rfl rfl (ex_por_t rfl rfl hg3170) ?_
        refine ops_ex rfl (guard_none rfl) rfl rfl (ex_move rfl rfl) ?_
        refine ops_off rfl (guard_off rfl rfl rfl hg3171) rfl rfl ?_
        refine ops_off rfl (guard_off rfl rfl rfl hg3171) rfl rfl ?_
        refine ops_off rfl (guard_off rfl rfl rfl hg3171) rfl rfl ?_
        refine ops_off rfl (guard_off rfl rfl rfl hg3171) rfl rfl ?_
        have hg3172 : (((!t3163) || (!t3165)) || (!t3167)) = true := by simp only [hg3171, Bool.and_true, Bool.true_and, Bool.and_false, Bool.false_and, Bool.or_true, Bool.true_or, Bool.or_false, Bool.false_or, Bool.not_true, Bool.not_false, Bool.not_not]
        refine ops_ex (v := .bool (((!t3163) || (!t3165)) || (!t3167))) rfl (guard_none rfl) rfl rfl (ex_por_t rfl rfl hg3171) ?_
        refine ops_ex rfl (guard_none rfl) rfl rfl (ex_assign rfl rfl) ?_
        refine ops_nil ?_
        exact at_meet [(1, .pointer (some ⟨b3155, 0, none⟩)), (11, .bool (((!t3163) || (!t3165)) || (!t3167)))] ⟨rfl, HM⟩ (Sub.cons rfl (Sub.cons rfl Sub.nil))
      · skip
        refine ops_ex rfl (guard_on rfl rfl rfl hg3170) rfl rfl (ex_fieldAddr (off' := 1) rfl rfl Tryz.underlying44 rfl tsz2 rfl) ?_
        refine ops_ex rfl (guard_on rfl rfl rfl hg3170) rfl rfl (ex_load1 rfl rfl Tryz.underlying2 rfl ((HM.box_at 0 rfl) 1 _ rfl)) ?_
        refine ops_ex rfl (guard_on rfl rfl rfl hg3170) rfl rfl (ex_move rfl rfl) ?_
        refine ops_does rfl (guard_on rfl rfl rfl hg3170) rfl rfl (does_callk rfl callok49 rfl (impl_within.calls (x0 := x0.fNeed) (x1 := 1) (x2 := (x0.fKeys.length : Int)) (cond_t (not_mk hg3170) h3166))) ?_
        rintro _ w3173 ⟨rfl, hn⟩
        replace HM : Mem w [] w3173 [box b3155 44 [p0_0, .int .i64 x0.fNeed, .int .i64 x0.fAfter]] := HM.call hn
        refine ops_ex rfl (guard_on rfl rfl rfl hg3170) rfl rfl (ex_not rfl rfl) ?_
        refine ops_ex (v := .bool ((!t3163) || (!t3165))) rfl (guard_none rfl) rfl rfl (ex_por_f rfl rfl hg3170 rfl) ?_
        refine ops_ex rfl (guard_none rfl) rfl rfl (ex_move rfl rfl) ?_
        refine bool_cases ((!t3163) || (!t3165)) (fun hg3174 => ?_) (fun hg3174 => ?_)
        · skip
          refine ops_off rfl (guard_off rfl rfl rfl hg3174) rfl rfl ?_
          refine ops_off rfl (guard_off rfl rfl rfl hg3174) rfl rfl ?_
          refine ops_off rfl (guard_off rfl rfl rfl hg3174) rfl rfl ?_
          refine ops_off rfl (guard_off rfl rfl rfl hg3174) rfl rfl ?_
          have hg3175 : (((!t3163) || (!t3165)) || (!t3167)) = true := by simp only [hg3174, Bool.and_true, Bool.true_and, Bool.and_false, Bool.false_and, Bool.or_true, Bool.true_or, Bool.or_false, Bool.false_or, Bool.not_true, Bool.not_false, Bool.not_not]
          refine ops_ex (v := .bool (((!t3163) || (!t3165)) || (!t3167))) rfl (guard_none rfl) rfl rfl (ex_por_t rfl rfl hg3174) ?_
          refine ops_ex rfl (guard_none rfl) rfl rfl (ex_assign rfl rfl) ?_
          refine ops_nil ?_
          exact at_meet [(1, .pointer (some ⟨b3155, 0, none⟩)), (11, .bool (((!t3163) || (!t3165)) || (!t3167)))] ⟨rfl, HM⟩ (Sub.cons rfl (Sub.cons rfl Sub.nil))
        · skip
          refine ops_ex rfl (guard_on rfl rfl rfl hg3174) rfl rfl (ex_fieldAddr (off' := 2) rfl rfl Tryz.underlying44 rfl tsz2 rfl) ?_
          refine ops_ex rfl (guard_on rfl rfl rfl hg3174) rfl rfl (ex_load1 rfl rfl Tryz.underlying2 rfl ((HM.box_at 0 rfl) 2 _ rfl)) ?_
          refine ops_does rfl (guard_on rfl rfl rfl hg3174) rfl rfl (does_callk rfl callok91 rfl (impl_isHeight.calls (x0 := x0.fAfter) (cond_t (not_mk hg3174) h3168))) ?_
          rintro _ w3176 ⟨rfl, hn⟩
          replace HM : Mem w [] w3176 [box b3155 44 [p0_0, .int .i64 x0.fNeed, .int .i64 x0.fAfter]] := HM.call hn
          refine ops_ex rfl (guard_on rfl rfl rfl hg3174) rfl rfl (ex_not rfl rfl) ?_
          refine ops_ex (v := .bool (((!t3163) || (!t3165)) || (!t3167))) rfl (guard_none rfl) rfl rfl (ex_por_f rfl rfl hg3174 rfl) ?_
          refine ops_ex rfl (guard_none rfl) rfl rfl (ex_assign rfl rfl) ?_
          refine ops_nil ?_
          exact at_meet [(1, .pointer (some ⟨b3155, 0, none⟩)), (11, .bool (((!t3163) || (!t3165)) || (!t3167)))] ⟨rfl, HM⟩ (Sub.cons rfl (Sub.cons rfl Sub.nil))
    · rintro _ w3177 ⟨rfl, HM⟩
      refine at_then ?_
      refine run_cond (b := (((!t3163) || (!t3165)) || (!t3167))) rfl (fun hb3178 => ?_) (fun hb3178 => ?_)
      · replace H := cond_t hb3178 H
        refine run_seq ?_
        refine run_region rfl ?_
        refine ops_ex rfl (guard_none rfl) rfl rfl (ex_assign rfl rfl) ?_
        refine ops_nil ?_
        refine at_then ?_
        refine run_ret ?_
        refine at_block_ret ?_
        refine at_then_ret ?_
        replace HM := (HM.front 0 rfl rfl).drop
        have hR := Option.some.inj H
        subst hR
        exact at_ret1 rfl rfl ⟨_, rfl, rfl, HM⟩
      · replace H := cond_f hb3178 H
        refine run_seq ?_
        obtain ⟨t3179, h3180, H⟩ := bind_some H
        refine run_region rfl ?_
        refine ops_ex rfl (guard_none rfl) rfl rfl (ex_fieldAddr (off' := 0) rfl rfl Tryz.underlying44 rfl tsz42 rfl) ?_
        refine ops_ex rfl (guard_none rfl) rfl rfl (ex_load1 rfl rfl Tryz.underlying42 rfl ((HM.box_at 0 rfl) 0 _ rfl)) ?_
        refine ops_does rfl (guard_none rfl) rfl rfl (does_callk rfl callok92 rfl (impl_isRising.calls (x0 := x0.fKeys) (HM.rd hp0_0) h3180)) ?_
        rintro _ w3181 ⟨rfl, hn⟩
        replace HM : Mem w [] w3181 [box b3155 44 [p0_0, .int .i64 x0.fNeed, .int .i64 x0.fAfter]] := HM.call hn
        refine ops_ex rfl (guard_none rfl) rfl rfl (ex_not rfl rfl) ?_
        refine ops_ex rfl (guard_none rfl) rfl rfl (ex_assign rfl rfl) ?_
        refine ops_nil ?_
        refine at_then ?_
        refine run_cond (b := !t3179) rfl (fun hb3182 => ?_) (fun hb3182 => ?_)
        · replace H := cond_t hb3182 H
          refine run_seq ?_
          refine run_region rfl ?_
          refine ops_ex rfl (guard_none rfl) rfl rfl (ex_assign rfl rfl) ?_
          refine ops_nil ?_
          refine at_then ?_
          refine run_ret ?_
          refine at_block_ret ?_
          refine at_then_ret ?_
          replace HM := (HM.front 0 rfl rfl).drop
          have hR := Option.some.inj H
          subst hR
          exact at_ret1 rfl rfl ⟨_, rfl, rfl, HM⟩
        · replace H := cond_f hb3182 H
          refine run_skip ?_
          refine at_block ?_
          refine at_then ?_
          refine run_seq ?_
          refine run_region rfl ?_
          refine ops_ex rfl (guard_none rfl) rfl rfl (ex_assign rfl rfl) ?_
          refine ops_nil ?_
          refine at_then ?_
          refine run_ret ?_
          replace HM := (HM.front 0 rfl rfl).drop
          have hR := Option.some.inj H
          subst hR
          exact at_ret1 rfl rfl ⟨_, rfl, rfl, HM⟩
end Go.Proofs.YtcpacdbdehphkaaGreatDoor.Zk
