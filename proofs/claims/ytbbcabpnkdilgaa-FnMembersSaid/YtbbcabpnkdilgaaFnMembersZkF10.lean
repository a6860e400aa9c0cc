/- What functions of the program compute, each as a plain function, and that they do. Conditions: as each theorem states them. -/
import Derived.Test.YtbbcabpnkdilgaaFnMembersZkF9
namespace Go.Proofs.Ytbbcabpnkdilgaa.Zk
open Go Go.RowKit Go.IntWalk Go.Proofs
set_option linter.unusedVariables false
set_option linter.unusedSimpArgs false
set_option maxRecDepth 100000
set_option maxHeartbeats 4000000
def impl_SameMembers.f (k : Nat) (x0 : List Member) (x1 : List Member) : Option Bool := ((slices_Equal_impl_Member.f k x0 x1).bind fun t6670 => some t6670)
theorem impl_SameMembers.calls {k : Nat} {x0 : List Member} {x1 : List Member} {p0 : Value} {p1 : Value} {w : World} (hp0 : RdS kMember w p0 x0) (hp1 : RdS kMember w p1 x1) {r : Bool} (H : impl_SameMembers.f k x0 x1 = some r) :
    Calls Try.prog 14 ([p0, p1] : List Value).toArray w (fun e w_ => ∃ v, e = .returned v ∧ v = (.bool r) ∧ Mem w [] w_ []) := by
  have HM := Mem.start w
  refine calls_run (N := 8) Try.func14 rfl rfl rfl rfl ?_
  unfold impl_SameMembers.f at H
  refine run_seq ?_
  refine run_region rfl ?_
  refine ox rfl rfl rfl rfl (ex_assign rfl rfl) ?_
  refine ops_nil (at_then (run_seq ?_))
  obtain ⟨t6670, h6671, H⟩ := bind_some H
  refine run_region rfl ?_
  refine ox rfl rfl rfl rfl (ex_move rfl rfl) ?_
  refine ox rfl rfl rfl rfl (ex_move rfl rfl) ?_
  refine od rfl rfl rfl rfl (does_callk rfl callok66 rfl (slices_Equal_impl_Member.calls (x0 := x0) (x1 := x1) (HM.rd hp0) (HM.rd hp1) h6671)) ?_
  rintro _ w6672 ⟨rfl, hn⟩
  replace HM : Mem w [] w6672 [] := HM.call hn
  refine ox rfl rfl rfl rfl (ex_assign rfl rfl) ?_
  refine ops_nil (at_then ?_)
  refine run_ret ?_
  have hR := Option.some.inj H
  subst hR
  exact at_ret1 rfl rfl ⟨_, rfl, rfl, HM⟩

def laws_FnMembers.l1 (t6682 : (List Member) × Tx × Int) (t6696 : MembersResult) (a6842 : Int) : Nat → Int → Option (Bool ⊕ Unit)
  | 0, _ => none
  | k + 1, a6929 => (bif (decide (a6929 < (t6682.2.1.fIns.length : Int))) then (chk (idxOk a6929 t6682.2.1.fIns.length) (bif (((((gt t6682.2.1.fIns a6929).fTx) == ((gt t6696.fMembers a6842).fRef.fTx)) && (((gt t6682.2.1.fIns a6929).fAt) == ((gt t6696.fMembers a6842).fRef.fAt))) && (((gt t6696.fMembers a6842).fKey) != t6682.2.1.fMember)) then some (.inl false) else laws_FnMembers.l1 t6682 t6696 a6842 k (wrap64 (a6929 + 1)))) else some (.inr ()))
theorem laws_FnMembers.l1_z (t6682 : (List Member) × Tx × Int) (t6696 : MembersResult) (a6842 : Int) (a6929 : Int) : laws_FnMembers.l1 t6682 t6696 a6842 0 a6929 = none := rfl
theorem laws_FnMembers.l1_s (t6682 : (List Member) × Tx × Int) (t6696 : MembersResult) (a6842 : Int) (k : Nat) (a6929 : Int) : laws_FnMembers.l1 t6682 t6696 a6842 (k + 1) a6929 = (bif (decide (a6929 < (t6682.2.1.fIns.length : Int))) then (chk (idxOk a6929 t6682.2.1.fIns.length) (bif (((((gt t6682.2.1.fIns a6929).fTx) == ((gt t6696.fMembers a6842).fRef.fTx)) && (((gt t6682.2.1.fIns a6929).fAt) == ((gt t6696.fMembers a6842).fRef.fAt))) && (((gt t6696.fMembers a6842).fKey) != t6682.2.1.fMember)) then some (.inl false) else laws_FnMembers.l1 t6682 t6696 a6842 k (wrap64 (a6929 + 1)))) else some (.inr ())) := rfl
def laws_FnMembers.l0 (t6682 : (List Member) × Tx × Int) (t6696 : MembersResult) : Nat → Int → Option (Bool ⊕ Unit)
  | 0, _ => none
  | k + 1, a6842 => (bif (decide (a6842 < (t6696.fMembers.length : Int))) then ((chk (idxOk a6842 t6696.fMembers.length) ((impl_MemberOf.f k t6682.1 ((gt t6696.fMembers a6842).fKey)).bind fun t6907 => (chk (!((((gt t6696.fMembers a6842).fKey) != t6682.2.1.fMember) && (!(t6907.fCode != 0))) || (idxOk (0 : Int) t6907.fMembers.length)) (bif ((((gt t6696.fMembers a6842).fKey) != t6682.2.1.fMember) && ((t6907.fCode != 0) || (!((((gt t6907.fMembers (0 : Int)).fKey) == ((gt t6696.fMembers a6842).fKey)) && ((((gt t6907.fMembers (0 : Int)).fRef.fTx) == ((gt t6696.fMembers a6842).fRef.fTx)) && (((gt t6907.fMembers (0 : Int)).fRef.fAt) == ((gt t6696.fMembers a6842).fRef.fAt))))))) then some (.inl false) else laws_FnMembers.l1 t6682 t6696 a6842 k 0)))).bind fun o6899 => thn o6899 (fun r => some (.inl r)) (fun _ => laws_FnMembers.l0 t6682 t6696 k (wrap64 (a6842 + 1)))) else some (.inr ()))
theorem laws_FnMembers.l0_z (t6682 : (List Member) × Tx × Int) (t6696 : MembersResult) (a6842 : Int) : laws_FnMembers.l0 t6682 t6696 0 a6842 = none := rfl
theorem laws_FnMembers.l0_s (t6682 : (List Member) × Tx × Int) (t6696 : MembersResult) (k : Nat) (a6842 : Int) : laws_FnMembers.l0 t6682 t6696 (k + 1) a6842 = (bif (decide (a6842 < (t6696.fMembers.length : Int))) then ((chk (idxOk a6842 t6696.fMembers.length) ((impl_MemberOf.f k t6682.1 ((gt t6696.fMembers a6842).fKey)).bind fun t6907 => (chk (!((((gt t6696.fMembers a6842).fKey) != t6682.2.1.fMember) && (!(t6907.fCode != 0))) || (idxOk (0 : Int) t6907.fMembers.length)) (bif ((((gt t6696.fMembers a6842).fKey) != t6682.2.1.fMember) && ((t6907.fCode != 0) || (!((((gt t6907.fMembers (0 : Int)).fKey) == ((gt t6696.fMembers a6842).fKey)) && ((((gt t6907.fMembers (0 : Int)).fRef.fTx) == ((gt t6696.fMembers a6842).fRef.fTx)) && (((gt t6907.fMembers (0 : Int)).fRef.fAt) == ((gt t6696.fMembers a6842).fRef.fAt))))))) then some (.inl false) else laws_FnMembers.l1 t6682 t6696 a6842 k 0)))).bind fun o6899 => thn o6899 (fun r => some (.inl r)) (fun _ => laws_FnMembers.l0 t6682 t6696 k (wrap64 (a6842 + 1)))) else some (.inr ())) := rfl
def laws_FnMembers.f (k : Nat) (x0 : List Int) : Option Bool := ((laws_lwBig.f k x0).bind fun t6678 => (bif t6678 then some true else ((spec_DrawTakeMembers.f k x0).bind fun t6682 => ((impl_TakeMembers.f k t6682.1 (⟨t6682.2.1.fKind, t6682.2.1.fMember, t6682.2.1.fIns, t6682.2.1.fOuts⟩ : Tx) t6682.2.2).bind fun t6696 => (bif (t6696.fCode != 0) then ((spec_TakeMembers.f k t6682.1 (⟨t6682.2.1.fKind, t6682.2.1.fMember, t6682.2.1.fIns, t6682.2.1.fOuts⟩ : Tx) t6682.2.2).bind fun t6712 => some (t6712.fCode == t6696.fCode)) else ((impl_MemberOf.f k t6696.fMembers t6682.2.1.fMember).bind fun t6717 => ((laws_FnMembers.l0 t6682 t6696 k 0).bind fun o6812 => thn o6812 (fun r => some r) (fun _ => (chk (!((t6682.2.1.fKind == 1) && (!(t6717.fCode != 0))) || (idxOk (0 : Int) t6717.fMembers.length)) (bif (((t6682.2.1.fKind == 1) && ((t6717.fCode != 0) || (!((((gt t6717.fMembers (0 : Int)).fRef.fTx) == t6682.2.2) && (((gt t6717.fMembers (0 : Int)).fRef.fAt) == 0))))) || ((t6682.2.1.fKind == 2) && (t6717.fCode != 4))) then some false else ((impl_KeysOf.f k t6696.fMembers).bind fun t6962 => ((impl_MembersFault.f k t6696.fMembers).bind fun t6972 => ((bif (((t6972 == 0) && (t6962.fCode == 0)) && ((t6962.fList.length : Int) == (t6696.fMembers.length : Int))) then spec_TakeMembers.f k t6682.1 (⟨t6682.2.1.fKind, t6682.2.1.fMember, t6682.2.1.fIns, t6682.2.1.fOuts⟩ : Tx) t6682.2.2 else some default).bind fun t6974 => ((bif (((t6972 == 0) && (t6962.fCode == 0)) && ((t6962.fList.length : Int) == (t6696.fMembers.length : Int))) then impl_SameMembers.f k t6696.fMembers t6974.fMembers else some default).bind fun t6978 => some ((((t6972 == 0) && (t6962.fCode == 0)) && ((t6962.fList.length : Int) == (t6696.fMembers.length : Int))) && t6978)))))))))))))))
theorem laws_FnMembers.calls {k : Nat} {x0 : List Int} {p0 : Value} {w : World} (hp0 : RdS kU8 w p0 x0) {r : Bool} (H : laws_FnMembers.f k x0 = some r) :
    Calls Try.prog 3 ([p0] : List Value).toArray w (fun e w_ => ∃ v, e = .returned v ∧ v = (.bool r) ∧ Mem w [] w_ []) := by
  have HM := Mem.start w
  refine calls_run (N := 156) Try.func3 rfl rfl rfl rfl ?_
  unfold laws_FnMembers.f at H
  refine run_seq ?_
  refine run_region rfl ?_
  refine ox rfl rfl rfl rfl (ex_assign rfl rfl) ?_
  refine ops_nil (at_then (run_seq ?_))
  refine run_seq ?_
  obtain ⟨t6678, h6679, H⟩ := bind_some H
  refine run_region rfl ?_
  refine ox rfl rfl rfl rfl (ex_move rfl rfl) ?_
  refine od rfl rfl rfl rfl (does_callk rfl callok7 rfl (laws_lwBig.calls (x0 := x0) (HM.rd hp0) h6679)) ?_
  rintro _ w6680 ⟨rfl, hn⟩
  replace HM : Mem w [] w6680 [] := HM.call hn
  refine ops_nil (at_then ?_)
  refine run_cond (b := t6678) rfl (fun hb6681 => ?_) (fun hb6681 => ?_)
  · replace H := cond_t hb6681 H
    refine run_seq ?_
    refine run_region rfl ?_
    refine ox rfl rfl rfl rfl (ex_assign rfl rfl) ?_
    refine ops_nil (at_then ?_)
    refine run_ret ?_
    refine at_then_ret ?_
    have hR := Option.some.inj H
    subst hR
    exact at_ret1 rfl rfl ⟨_, rfl, rfl, HM⟩
  · replace H := cond_f hb6681 H
    refine run_skip ?_
    refine at_then ?_
    refine run_seq ?_
    obtain ⟨t6682, h6683, H⟩ := bind_some H
    refine run_region rfl ?_
    refine ox rfl rfl rfl rfl (ex_move rfl rfl) ?_
    refine od rfl rfl rfl rfl (does_callk rfl callok8 rfl (spec_DrawTakeMembers.calls (x0 := x0) (HM.rd hp0) h6683)) ?_
    rintro _ w6693 ⟨u6684, u6686, u6688, rfl, hn⟩
    replace HM : Mem w [] w6693 [own kMember 38 u6684 t6682.1, own kRef 36 u6686 t6682.2.1.fIns, own kOut 69 u6688 t6682.2.1.fOuts] := HM.call hn
    refine ox rfl rfl rfl rfl (ex_move rfl rfl) ?_
    refine ox rfl rfl rfl rfl (ex_extract rfl rfl rfl) ?_
    refine ox rfl rfl rfl rfl (ex_extract rfl rfl rfl) ?_
    refine ox rfl rfl rfl rfl (ex_extract rfl rfl rfl) ?_
    refine od rfl rfl rfl rfl (does_alloc (cs := [.int .i64 0, .int .i64 0, .slice none 0 0, .slice none 0 0]) rfl tz28 rfl HM) ?_
    rintro _ w6694 ⟨b6690, rfl, HM⟩
    refine ox rfl rfl rfl rfl (ex_assign rfl rfl) ?_
    refine odS rfl rfl rfl (does_store (vs := [.int .i64 t6682.2.1.fKind, .int .i64 t6682.2.1.fMember, u6686, u6688]) (cs' := [.int .i64 t6682.2.1.fKind, .int .i64 t6682.2.1.fMember, u6686, u6688]) rfl rfl rfl rfl tsz28 (Ones.int (Ones.int (Ones.rd (HM.own_rd 2 rfl) (Ones.rd (HM.own_rd 3 rfl) Ones.nil)))) rfl rfl HM) ?_
    rintro w6695 HM
    refine ox rfl rfl rfl rfl (ex_assign rfl rfl) ?_
    refine ops_nil (at_then (run_seq ?_))
    obtain ⟨t6696, h6697, H⟩ := bind_some H
    refine run_region rfl ?_
    refine ox rfl rfl rfl rfl (ex_move rfl rfl) ?_
    refine ox rfl rfl rfl rfl (ex_loadN (cs := [(.int .i64 t6682.2.1.fKind), (.int .i64 t6682.2.1.fMember), u6686, u6688]) rfl rfl Try.underlying28 rfl tsz28 rfl ((HM.box_at 0 rfl).sub 0 4 rfl)) ?_
    refine ox rfl rfl rfl rfl (ex_move rfl rfl) ?_
    refine od rfl rfl rfl rfl (does_callk rfl callok9 rfl (impl_TakeMembers.calls (x0 := t6682.1) (x1 := (⟨t6682.2.1.fKind, t6682.2.1.fMember, t6682.2.1.fIns, t6682.2.1.fOuts⟩ : Tx)) (x2 := t6682.2.2) (HM.own_rd 1 rfl) (HM.own_rd 2 rfl) (HM.own_rd 3 rfl) h6697)) ?_
    rintro _ w6703 ⟨u6698, rfl, hn⟩
    replace HM : Mem w [] w6703 [own kMember 38 u6698 t6696.fMembers, box b6690 28 [.int .i64 t6682.2.1.fKind, .int .i64 t6682.2.1.fMember, u6686, u6688], own kMember 38 u6684 t6682.1, own kRef 36 u6686 t6682.2.1.fIns, own kOut 69 u6688 t6682.2.1.fOuts] := HM.call hn
    refine od rfl rfl rfl rfl (does_alloc (cs := [.int .i64 0, .slice none 0 0]) rfl tz32 rfl HM) ?_
    rintro _ w6704 ⟨b6700, rfl, HM⟩
    refine odS rfl rfl rfl (does_store (vs := [.int .i64 t6696.fCode, u6698]) (cs' := [.int .i64 t6696.fCode, u6698]) rfl rfl rfl rfl tsz32 (Ones.int (Ones.rd (HM.own_rd 1 rfl) Ones.nil)) rfl rfl HM) ?_
    rintro w6705 HM
    refine ops_nil (at_then (run_seq ?_))
    refine run_seq ?_
    refine run_region rfl ?_
    refine ox rfl rfl rfl rfl (ex_fieldAddr (off' := 0) rfl rfl Try.underlying32 rfl tsz2 rfl) ?_
    refine ox rfl rfl rfl rfl (ex_load1 rfl rfl Try.underlying2 rfl ((HM.box_at 0 rfl) 0 _ rfl)) ?_
    refine ox rfl rfl rfl rfl (ex_neq rfl rfl rfl) ?_
    refine ops_nil (at_then ?_)
    refine run_cond (b := (t6696.fCode != 0)) rfl (fun hb6711 => ?_) (fun hb6711 => ?_)
    · replace H := cond_t hb6711 H
      refine run_seq ?_
      obtain ⟨t6712, h6713, H⟩ := bind_some H
      refine run_drawf (fun w_ => Mem w [] w_ [box b6700 32 [.int .i64 t6696.fCode, u6698], own kMember 38 u6698 t6696.fMembers, box b6690 28 [.int .i64 t6682.2.1.fKind, .int .i64 t6682.2.1.fMember, u6686, u6688], own kMember 38 u6684 t6682.1, own kRef 36 u6686 t6682.2.1.fIns, own kOut 69 u6688 t6682.2.1.fOuts]) [(0, true), (1, true), (2, true), (5, true), (6, true), (3, false), (4, true), (7, true), (8, true)] mixed rfl rfl (by kernel_rfl) ?_
      replace HM := HM.grow (fr_drew _)
      have hS := Mem.suf (M := []) HM
      refine dp rfl rfl rfl rfl (ex_move rfl rfl) hS ?_
      refine drwp_take rfl (guard_none rfl) rfl rfl (fun w_ hS_ => (ex_loadN (cs := [(.int .i64 t6682.2.1.fKind), (.int .i64 t6682.2.1.fMember), u6686, u6688]) rfl rfl Try.underlying28 rfl tsz28 rfl ((hS_.box_at 2 rfl).sub 0 4 rfl))) hS ?_
      refine dp rfl rfl rfl rfl (ex_move rfl rfl) hS ?_
      refine dp rfl rfl rfl rfl (ex_fieldAddr (off' := 0) rfl rfl Try.underlying32 rfl tsz2 rfl) hS ?_
      refine drwp_take rfl (guard_none rfl) rfl rfl (fun w_ hS_ => (ex_load1 rfl rfl Try.underlying2 rfl ((hS_.box_at 0 rfl) 0 _ rfl))) hS ?_
      refine drwp_one rfl (guard_none rfl) rfl rfl (does_callk rfl callok10 rfl (spec_TakeMembers.calls (x0 := t6682.1) (x1 := (⟨t6682.2.1.fKind, t6682.2.1.fMember, t6682.2.1.fIns, t6682.2.1.fOuts⟩ : Tx)) (x2 := t6682.2.2) (HM.own_rd 3 rfl) (HM.own_rd 4 rfl) (HM.own_rd 5 rfl) h6713)) ?_
      rintro _ w6716 ⟨u6714, rfl, hn⟩
      replace HM : Mem w [] w6716 [own kMember 38 u6714 t6712.fMembers, box b6700 32 [.int .i64 t6696.fCode, u6698], own kMember 38 u6698 t6696.fMembers, box b6690 28 [.int .i64 t6682.2.1.fKind, .int .i64 t6682.2.1.fMember, u6686, u6688], own kMember 38 u6684 t6682.1, own kRef 36 u6686 t6682.2.1.fIns, own kOut 69 u6688 t6682.2.1.fOuts] := HM.call hn
      have hS := Mem.suf (M := [own kMember 38 u6714 t6712.fMembers]) HM
      refine ⟨hS, ?_⟩
      refine dp rfl rfl rfl rfl (ex_field1 rfl rfl Try.underlying32 rfl Try.underlying2 rfl rfl) hS ?_
      refine dp rfl rfl rfl rfl (ex_eql rfl rfl rfl) hS ?_
      refine dp rfl rfl rfl rfl (ex_assign rfl rfl) hS ?_
      refine drwp_done ?_
      refine at_then ?_
      refine run_ret ?_
      refine at_then_ret ?_
      replace HM := (HM.front 0 rfl rfl).drop
      replace HM := (HM.front 0 rfl rfl).drop
      replace HM := (HM.front 0 rfl rfl).drop
      replace HM := (HM.front 0 rfl rfl).drop
      replace HM := (HM.front 0 rfl rfl).drop
      replace HM := (HM.front 0 rfl rfl).drop
      replace HM := (HM.front 0 rfl rfl).drop
      have hR := Option.some.inj H
      subst hR
      exact at_ret1 rfl rfl ⟨_, rfl, rfl, HM⟩
    · replace H := cond_f hb6711 H
      refine run_skip ?_
      refine at_then ?_
      refine run_seq ?_
      obtain ⟨t6717, h6718, H⟩ := bind_some H
      refine run_region rfl ?_
      refine ox rfl rfl rfl rfl (ex_fieldAddr (off' := 1) rfl rfl Try.underlying32 rfl tsz24 rfl) ?_
      refine ox rfl rfl rfl rfl (ex_load1 rfl rfl Try.underlying24 rfl ((HM.box_at 0 rfl) 1 _ rfl)) ?_
      refine ox rfl rfl rfl rfl (ex_fieldAddr (off' := 1) rfl rfl Try.underlying28 rfl tsz2 rfl) ?_
      refine ox rfl rfl rfl rfl (ex_load1 rfl rfl Try.underlying2 rfl ((HM.box_at 2 rfl) 1 _ rfl)) ?_
      refine od rfl rfl rfl rfl (does_callk rfl callok11 rfl (impl_MemberOf.calls (x0 := t6696.fMembers) (x1 := t6682.2.1.fMember) (HM.own_rd 1 rfl) h6718)) ?_
      rintro _ w6724 ⟨u6719, rfl, hn⟩
      replace HM : Mem w [] w6724 [own kMember 38 u6719 t6717.fMembers, box b6700 32 [.int .i64 t6696.fCode, u6698], own kMember 38 u6698 t6696.fMembers, box b6690 28 [.int .i64 t6682.2.1.fKind, .int .i64 t6682.2.1.fMember, u6686, u6688], own kMember 38 u6684 t6682.1, own kRef 36 u6686 t6682.2.1.fIns, own kOut 69 u6688 t6682.2.1.fOuts] := HM.call hn
      refine od rfl rfl rfl rfl (does_alloc (cs := [.int .i64 0, .slice none 0 0]) rfl tz32 rfl HM) ?_
      rintro _ w6725 ⟨b6721, rfl, HM⟩
      refine odS rfl rfl rfl (does_store (vs := [.int .i64 t6717.fCode, u6719]) (cs' := [.int .i64 t6717.fCode, u6719]) rfl rfl rfl rfl tsz32 (Ones.int (Ones.rd (HM.own_rd 1 rfl) Ones.nil)) rfl rfl HM) ?_
      rintro w6726 HM
      refine ops_nil (at_then ?_)
      obtain ⟨o6812, ho6813, H⟩ := bind_some H
      refine run_mid (fun ρ_ w_ => Sum.inr () = o6812 ∧ ρ_ = [(4, .pointer (some ⟨b6690, 0, none⟩)), (3, u6684), (5, .int .i64 t6682.2.2), (6, .pointer (some ⟨b6700, 0, none⟩)), (7, .pointer (some ⟨b6721, 0, none⟩))] ∧ Mem w [] w_ [box b6690 28 [.int .i64 t6682.2.1.fKind, .int .i64 t6682.2.1.fMember, u6686, u6688], own kRef 36 u6686 t6682.2.1.fIns, own kOut 69 u6688 t6682.2.1.fOuts, own kMember 38 u6684 t6682.1, box b6700 32 [.int .i64 t6696.fCode, u6698], own kMember 38 u6698 t6696.fMembers, box b6721 32 [.int .i64 t6717.fCode, u6719], own kMember 38 u6719 t6717.fMembers]) ?_ ?_
      · skip
        refine run_seq ?_
        refine run_region rfl ?_
        refine ox rfl rfl rfl rfl (ex_assign rfl rfl) ?_
        refine ops_nil (at_then ?_)
        refine run_block ?_
        replace HM := HM.front 1 rfl rfl
        replace HM := HM.front 1 rfl rfl
        replace HM := HM.front 3 rfl rfl
        replace HM := HM.front 3 rfl rfl
        replace HM := HM.front 5 rfl rfl
        replace HM := HM.front 7 rfl rfl
        replace HM := HM.front 7 rfl rfl
        replace HM := HM.front 7 rfl rfl
        refine run_loop (fun k_ ρ_ w_ => ∃ a6842 : Int, laws_FnMembers.l0 t6682 t6696 k_ a6842 = some o6812 ∧ ρ_ = [(4, .pointer (some ⟨b6690, 0, none⟩)), (3, u6684), (5, .int .i64 t6682.2.2), (6, .pointer (some ⟨b6700, 0, none⟩)), (7, .pointer (some ⟨b6721, 0, none⟩)), (8, .int .i64 a6842)] ∧ Mem w [] w_ [box b6690 28 [.int .i64 t6682.2.1.fKind, .int .i64 t6682.2.1.fMember, u6686, u6688], own kRef 36 u6686 t6682.2.1.fIns, own kOut 69 u6688 t6682.2.1.fOuts, own kMember 38 u6684 t6682.1, box b6700 32 [.int .i64 t6696.fCode, u6698], own kMember 38 u6698 t6696.fMembers, box b6721 32 [.int .i64 t6717.fCode, u6719], own kMember 38 u6719 t6717.fMembers]) k (ρ1 := [(4, .pointer (some ⟨b6690, 0, none⟩)), (3, u6684), (5, .int .i64 t6682.2.2), (6, .pointer (some ⟨b6700, 0, none⟩)), (7, .pointer (some ⟨b6721, 0, none⟩)), (8, .int .i64 0)]) ⟨_, ho6813, rfl, HM⟩ (Sub.cons rfl (Sub.cons rfl (Sub.cons rfl (Sub.cons rfl (Sub.cons rfl (Sub.cons rfl Sub.nil)))))) ?_
        clear HM ho6813
        rintro k6871 _ w6872 ⟨a6842, ho6813, rfl, HM⟩
        obtain _ | k6871 := k6871
        · exact nomatch ((laws_FnMembers.l0_z t6682 t6696 a6842).symm.trans ho6813)
        replace ho6813 := (laws_FnMembers.l0_s t6682 t6696 k6871 a6842).symm.trans ho6813
        refine run_seq ?_
        refine run_seq ?_
        refine run_region rfl ?_
        refine ox rfl rfl rfl rfl (ex_move rfl rfl) ?_
        refine ox rfl rfl rfl rfl (ex_fieldAddr (off' := 1) rfl rfl Try.underlying32 rfl tsz24 rfl) ?_
        refine ox rfl rfl rfl rfl (ex_load1 rfl rfl Try.underlying24 rfl ((HM.box_at 4 rfl) 1 _ rfl)) ?_
        refine ox rfl rfl rfl rfl (ex_len (d := kMember) (xs := t6696.fMembers) rfl rfl Try.underlying24 (HM.own_rd 5 rfl)) ?_
        refine ox rfl rfl rfl rfl (ex_lss rfl rfl rfl) ?_
        refine ops_nil (at_then ?_)
        refine run_cond (b := (decide (a6842 < (t6696.fMembers.length : Int)))) rfl (fun hb6873 => ?_) (fun hb6873 => ?_)
        · replace ho6813 := cond_t hb6873 ho6813
          refine run_skip ?_
          refine at_then ?_
          obtain ⟨o6899, ho6900, ho6813⟩ := bind_some ho6813
          refine run_mid (fun ρ_ w_ => Sum.inr () = o6899 ∧ ρ_ = [(4, .pointer (some ⟨b6690, 0, none⟩)), (3, u6684), (5, .int .i64 t6682.2.2), (6, .pointer (some ⟨b6700, 0, none⟩)), (7, .pointer (some ⟨b6721, 0, none⟩)), (8, .int .i64 a6842)] ∧ Mem w [] w_ [box b6690 28 [.int .i64 t6682.2.1.fKind, .int .i64 t6682.2.1.fMember, u6686, u6688], own kRef 36 u6686 t6682.2.1.fIns, own kOut 69 u6688 t6682.2.1.fOuts, own kMember 38 u6684 t6682.1, box b6700 32 [.int .i64 t6696.fCode, u6698], own kMember 38 u6698 t6696.fMembers, box b6721 32 [.int .i64 t6717.fCode, u6719], own kMember 38 u6719 t6717.fMembers]) ?_ ?_
          · skip
            refine run_block ?_
            refine run_seq ?_
            obtain ⟨e6901, ho6900⟩ := chk_some ho6900
            refine run_region rfl ?_
            refine ox rfl rfl rfl rfl (ex_fieldAddr (off' := 1) rfl rfl Try.underlying32 rfl tsz24 rfl) ?_
            refine ox rfl rfl rfl rfl (ex_load1 rfl rfl Try.underlying24 rfl ((HM.box_at 4 rfl) 1 _ rfl)) ?_
            refine ox rfl rfl rfl rfl (ex_move rfl rfl) ?_
            refine ox rfl rfl rfl rfl (ex_indexAddr (d := kMember) rfl rfl rfl Try.underlying24 tsz38 (HM.own_rd 5 rfl) (idx_lo e6901) (idx_hi e6901)) ?_
            refine ox rfl rfl rfl rfl (ex_loadN (cs := [(.int .i64 ((gt t6696.fMembers a6842).fKey)), (.int .i64 ((gt t6696.fMembers a6842).fRef.fTx)), (.int .i64 ((gt t6696.fMembers a6842).fRef.fAt))]) rfl rfl Try.underlying38 rfl tsz38 rfl ((rd_plain (HM.own_rd 5 rfl) e6901).sub 0 3 rfl)) ?_
            refine od rfl rfl rfl rfl (does_alloc (cs := [.int .i64 0, .int .i64 0, .int .i64 0]) rfl tz38 rfl HM) ?_
            rintro _ w6905 ⟨b6902, rfl, HM⟩
            refine odS rfl rfl rfl (does_store (vs := [.int .i64 ((gt t6696.fMembers a6842).fKey), .int .i64 ((gt t6696.fMembers a6842).fRef.fTx), .int .i64 ((gt t6696.fMembers a6842).fRef.fAt)]) (cs' := [.int .i64 ((gt t6696.fMembers a6842).fKey), .int .i64 ((gt t6696.fMembers a6842).fRef.fTx), .int .i64 ((gt t6696.fMembers a6842).fRef.fAt)]) rfl rfl rfl rfl tsz38 (Ones.int (Ones.int (Ones.int Ones.nil))) rfl rfl HM) ?_
            rintro w6906 HM
            refine ops_nil (at_then (run_seq ?_))
            obtain ⟨t6907, h6908, ho6900⟩ := bind_some ho6900
            refine run_region rfl ?_
            refine ox rfl rfl rfl rfl (ex_move rfl rfl) ?_
            refine ox rfl rfl rfl rfl (ex_fieldAddr (off' := 0) rfl rfl Try.underlying38 rfl tsz2 rfl) ?_
            refine ox rfl rfl rfl rfl (ex_load1 rfl rfl Try.underlying2 rfl ((HM.box_at 0 rfl) 0 _ rfl)) ?_
            refine od rfl rfl rfl rfl (does_callk rfl callok11 rfl (impl_MemberOf.calls (x0 := t6682.1) (x1 := (gt t6696.fMembers a6842).fKey) (HM.own_rd 4 rfl) h6908)) ?_
            rintro _ w6914 ⟨u6909, rfl, hn⟩
            replace HM : Mem w [] w6914 [own kMember 38 u6909 t6907.fMembers, box b6902 38 [.int .i64 ((gt t6696.fMembers a6842).fKey), .int .i64 ((gt t6696.fMembers a6842).fRef.fTx), .int .i64 ((gt t6696.fMembers a6842).fRef.fAt)], box b6690 28 [.int .i64 t6682.2.1.fKind, .int .i64 t6682.2.1.fMember, u6686, u6688], own kRef 36 u6686 t6682.2.1.fIns, own kOut 69 u6688 t6682.2.1.fOuts, own kMember 38 u6684 t6682.1, box b6700 32 [.int .i64 t6696.fCode, u6698], own kMember 38 u6698 t6696.fMembers, box b6721 32 [.int .i64 t6717.fCode, u6719], own kMember 38 u6719 t6717.fMembers] := HM.call hn
            refine od rfl rfl rfl rfl (does_alloc (cs := [.int .i64 0, .slice none 0 0]) rfl tz32 rfl HM) ?_
            rintro _ w6915 ⟨b6911, rfl, HM⟩
            refine odS rfl rfl rfl (does_store (vs := [.int .i64 t6907.fCode, u6909]) (cs' := [.int .i64 t6907.fCode, u6909]) rfl rfl rfl rfl tsz32 (Ones.int (Ones.rd (HM.own_rd 1 rfl) Ones.nil)) rfl rfl HM) ?_
            rintro w6916 HM
            refine ops_nil (at_then (run_seq ?_))
            refine run_seq ?_
            obtain ⟨e6919, ho6900⟩ := chk_some ho6900
            refine run_meet (fun ρ_ w_ => ρ_ = [(4, .pointer (some ⟨b6690, 0, none⟩)), (3, u6684), (5, .int .i64 t6682.2.2), (6, .pointer (some ⟨b6700, 0, none⟩)), (7, .pointer (some ⟨b6721, 0, none⟩)), (8, .int .i64 a6842), (9, .pointer (some ⟨b6902, 0, none⟩)), (74, .bool ((((gt t6696.fMembers a6842).fKey) != t6682.2.1.fMember) && ((t6907.fCode != 0) || (!((((gt t6907.fMembers (0 : Int)).fKey) == ((gt t6696.fMembers a6842).fKey)) && ((((gt t6907.fMembers (0 : Int)).fRef.fTx) == ((gt t6696.fMembers a6842).fRef.fTx)) && (((gt t6907.fMembers (0 : Int)).fRef.fAt) == ((gt t6696.fMembers a6842).fRef.fAt))))))))] ∧ Mem w [] w_ [box b6690 28 [.int .i64 t6682.2.1.fKind, .int .i64 t6682.2.1.fMember, u6686, u6688], own kRef 36 u6686 t6682.2.1.fIns, own kOut 69 u6688 t6682.2.1.fOuts, own kMember 38 u6684 t6682.1, box b6700 32 [.int .i64 t6696.fCode, u6698], own kMember 38 u6698 t6696.fMembers, box b6721 32 [.int .i64 t6717.fCode, u6719], own kMember 38 u6719 t6717.fMembers, box b6902 38 [.int .i64 ((gt t6696.fMembers a6842).fKey), .int .i64 ((gt t6696.fMembers a6842).fRef.fTx), .int .i64 ((gt t6696.fMembers a6842).fRef.fAt)]]) ?_ ?_
            · skip
              refine run_drawf (fun w_ => Mem w [] w_ [box b6911 32 [.int .i64 t6907.fCode, u6909], own kMember 38 u6909 t6907.fMembers, box b6902 38 [.int .i64 ((gt t6696.fMembers a6842).fKey), .int .i64 ((gt t6696.fMembers a6842).fRef.fTx), .int .i64 ((gt t6696.fMembers a6842).fRef.fAt)], box b6690 28 [.int .i64 t6682.2.1.fKind, .int .i64 t6682.2.1.fMember, u6686, u6688], own kRef 36 u6686 t6682.2.1.fIns, own kOut 69 u6688 t6682.2.1.fOuts, own kMember 38 u6684 t6682.1, box b6700 32 [.int .i64 t6696.fCode, u6698], own kMember 38 u6698 t6696.fMembers, box b6721 32 [.int .i64 t6717.fCode, u6719], own kMember 38 u6719 t6717.fMembers]) [(0, true), (1, true), (2, true), (3, true), (4, true), (5, true), (6, true), (7, true), (8, true), (9, true), (10, true), (11, true), (12, true), (13, true), (14, true), (15, true), (16, true), (17, true)] mixed rfl rfl (by kernel_rfl) ?_
              replace HM := HM.grow (fr_drew _)
              have hS := Mem.suf (M := []) HM
              refine dp rfl rfl rfl rfl (ex_fieldAddr (off' := 0) rfl rfl Try.underlying38 rfl tsz2 rfl) hS ?_
              refine drwp_take rfl (guard_none rfl) rfl rfl (fun w_ hS_ => (ex_load1 rfl rfl Try.underlying2 rfl ((hS_.box_at 2 rfl) 0 _ rfl))) hS ?_
              refine dp rfl rfl rfl rfl (ex_fieldAddr (off' := 1) rfl rfl Try.underlying28 rfl tsz2 rfl) hS ?_
              refine drwp_take rfl (guard_none rfl) rfl rfl (fun w_ hS_ => (ex_load1 rfl rfl Try.underlying2 rfl ((hS_.box_at 3 rfl) 1 _ rfl))) hS ?_
              refine dp rfl rfl rfl rfl (ex_neq rfl rfl rfl) hS ?_
              refine dp rfl rfl rfl rfl (ex_move rfl rfl) hS ?_
              refine bool_cases (((gt t6696.fMembers a6842).fKey) != t6682.2.1.fMember) (fun hg6920 => ?_) (fun hg6920 => ?_)
              · skip
                refine drwp_take rfl (guard_on rfl rfl rfl hg6920) rfl rfl (fun w_ hS_ => (ex_fieldAddr (off' := 0) rfl rfl Try.underlying32 rfl tsz2 rfl)) hS ?_
                refine drwp_take rfl (guard_on rfl rfl rfl hg6920) rfl rfl (fun w_ hS_ => (ex_load1 rfl rfl Try.underlying2 rfl ((hS_.box_at 0 rfl) 0 _ rfl))) hS ?_
                refine drwp_take rfl (guard_on rfl rfl rfl hg6920) rfl rfl (fun w_ hS_ => (ex_neq rfl rfl rfl)) hS ?_
                refine drwp_take rfl (guard_on rfl rfl rfl hg6920) rfl rfl (fun w_ hS_ => (ex_move rfl rfl)) hS ?_
                refine bool_cases (t6907.fCode != 0) (fun hg6921 => ?_) (fun hg6921 => ?_)
                · skip
                  refine drwp_off rfl (guard_off rfl rfl rfl hg6921) rfl rfl hS ?_
                  refine drwp_off rfl (guard_off rfl rfl rfl hg6921) rfl rfl hS ?_
                  refine drwp_off rfl (guard_off rfl rfl rfl hg6921) rfl rfl hS ?_
                  refine drwp_off rfl (guard_off rfl rfl rfl hg6921) rfl rfl hS ?_
                  refine drwp_off rfl (guard_off rfl rfl rfl hg6921) rfl rfl hS ?_
                  refine drwp_off rfl (guard_off rfl rfl rfl hg6921) rfl rfl hS ?_
                  have hg6922 : ((t6907.fCode != 0) || (!((((gt t6907.fMembers (0 : Int)).fKey) == ((gt t6696.fMembers a6842).fKey)) && ((((gt t6907.fMembers (0 : Int)).fRef.fTx) == ((gt t6696.fMembers a6842).fRef.fTx)) && (((gt t6907.fMembers (0 : Int)).fRef.fAt) == ((gt t6696.fMembers a6842).fRef.fAt)))))) = true := by simp only [hg6921, Bool.and_true, Bool.true_and, Bool.and_false, Bool.false_and, Bool.or_true, Bool.true_or, Bool.or_false, Bool.false_or, Bool.not_true, Bool.not_false, Bool.not_not]
                  refine drwp_take (v := .bool ((t6907.fCode != 0) || (!((((gt t6907.fMembers (0 : Int)).fKey) == ((gt t6696.fMembers a6842).fKey)) && ((((gt t6907.fMembers (0 : Int)).fRef.fTx) == ((gt t6696.fMembers a6842).fRef.fTx)) && (((gt t6907.fMembers (0 : Int)).fRef.fAt) == ((gt t6696.fMembers a6842).fRef.fAt))))))) rfl (guard_on rfl rfl rfl hg6920) rfl rfl (fun w_ hS_ => (ex_por_t rfl rfl hg6921)) hS ?_
                  refine drwp_take (v := .bool ((((gt t6696.fMembers a6842).fKey) != t6682.2.1.fMember) && ((t6907.fCode != 0) || (!((((gt t6907.fMembers (0 : Int)).fKey) == ((gt t6696.fMembers a6842).fKey)) && ((((gt t6907.fMembers (0 : Int)).fRef.fTx) == ((gt t6696.fMembers a6842).fRef.fTx)) && (((gt t6907.fMembers (0 : Int)).fRef.fAt) == ((gt t6696.fMembers a6842).fRef.fAt)))))))) rfl (guard_none rfl) rfl rfl (fun w_ hS_ => (ex_pand_t rfl rfl hg6920 rfl)) hS ?_
                  refine drwp_done ?_
                  replace HM := (HM.front 0 rfl rfl).drop
                  replace HM := (HM.front 0 rfl rfl).drop
                  replace HM := HM.front 8 rfl rfl
                  replace HM := HM.front 8 rfl rfl
                  replace HM := HM.front 8 rfl rfl
                  replace HM := HM.front 8 rfl rfl
                  replace HM := HM.front 8 rfl rfl
                  replace HM := HM.front 8 rfl rfl
                  replace HM := HM.front 8 rfl rfl
                  replace HM := HM.front 8 rfl rfl
                  exact at_meet [(4, .pointer (some ⟨b6690, 0, none⟩)), (3, u6684), (5, .int .i64 t6682.2.2), (6, .pointer (some ⟨b6700, 0, none⟩)), (7, .pointer (some ⟨b6721, 0, none⟩)), (8, .int .i64 a6842), (9, .pointer (some ⟨b6902, 0, none⟩)), (74, .bool ((((gt t6696.fMembers a6842).fKey) != t6682.2.1.fMember) && ((t6907.fCode != 0) || (!((((gt t6907.fMembers (0 : Int)).fKey) == ((gt t6696.fMembers a6842).fKey)) && ((((gt t6907.fMembers (0 : Int)).fRef.fTx) == ((gt t6696.fMembers a6842).fRef.fTx)) && (((gt t6907.fMembers (0 : Int)).fRef.fAt) == ((gt t6696.fMembers a6842).fRef.fAt))))))))] ⟨rfl, HM⟩ (Sub.cons rfl (Sub.cons rfl (Sub.cons rfl (Sub.cons rfl (Sub.cons rfl (Sub.cons rfl (Sub.cons rfl (Sub.cons rfl Sub.nil))))))))
                · skip
                  refine drwp_take rfl (guard_on rfl rfl rfl hg6921) rfl rfl (fun w_ hS_ => (ex_fieldAddr (off' := 1) rfl rfl Try.underlying32 rfl tsz24 rfl)) hS ?_
                  refine drwp_take rfl (guard_on rfl rfl rfl hg6921) rfl rfl (fun w_ hS_ => (ex_load1 rfl rfl Try.underlying24 rfl ((hS_.box_at 0 rfl) 1 _ rfl))) hS ?_
                  refine drwp_take rfl (guard_on rfl rfl rfl hg6921) rfl rfl (fun w_ hS_ => (ex_indexAddr (d := kMember) rfl rfl rfl Try.underlying24 tsz38 (hS_.own_rd 1 rfl) (idx_lo (or_t e6919 (and_mk hg6920 (not_mk hg6921)))) (idx_hi (or_t e6919 (and_mk hg6920 (not_mk hg6921)))))) hS ?_
                  refine drwp_take rfl (guard_on rfl rfl rfl hg6921) rfl rfl (fun w_ hS_ => (ex_loadN (cs := [(.int .i64 ((gt t6907.fMembers (0 : Int)).fKey)), (.int .i64 ((gt t6907.fMembers (0 : Int)).fRef.fTx)), (.int .i64 ((gt t6907.fMembers (0 : Int)).fRef.fAt))]) rfl rfl Try.underlying38 rfl tsz38 rfl ((rd_plain (hS_.own_rd 1 rfl) (or_t e6919 (and_mk hg6920 (not_mk hg6921)))).sub 0 3 rfl))) hS ?_
                  refine drwp_take rfl (guard_on rfl rfl rfl hg6921) rfl rfl (fun w_ hS_ => (ex_loadN (cs := [(.int .i64 ((gt t6696.fMembers a6842).fKey)), (.int .i64 ((gt t6696.fMembers a6842).fRef.fTx)), (.int .i64 ((gt t6696.fMembers a6842).fRef.fAt))]) rfl rfl Try.underlying38 rfl tsz38 rfl ((hS_.box_at 2 rfl).sub 0 3 rfl))) hS ?_
                  refine drwp_take rfl (guard_on rfl rfl rfl hg6921) rfl rfl (fun w_ hS_ => (ex_aneq rfl rfl rfl (by kernel_rfl) (eqs38 _ _ _ _ _ _ _))) hS ?_
                  refine drwp_take (v := .bool ((t6907.fCode != 0) || (!((((gt t6907.fMembers (0 : Int)).fKey) == ((gt t6696.fMembers a6842).fKey)) && ((((gt t6907.fMembers (0 : Int)).fRef.fTx) == ((gt t6696.fMembers a6842).fRef.fTx)) && (((gt t6907.fMembers (0 : Int)).fRef.fAt) == ((gt t6696.fMembers a6842).fRef.fAt))))))) rfl (guard_on rfl rfl rfl hg6920) rfl rfl (fun w_ hS_ => (ex_por_f rfl rfl hg6921 rfl)) hS ?_
                  refine drwp_take (v := .bool ((((gt t6696.fMembers a6842).fKey) != t6682.2.1.fMember) && ((t6907.fCode != 0) || (!((((gt t6907.fMembers (0 : Int)).fKey) == ((gt t6696.fMembers a6842).fKey)) && ((((gt t6907.fMembers (0 : Int)).fRef.fTx) == ((gt t6696.fMembers a6842).fRef.fTx)) && (((gt t6907.fMembers (0 : Int)).fRef.fAt) == ((gt t6696.fMembers a6842).fRef.fAt)))))))) rfl (guard_none rfl) rfl rfl (fun w_ hS_ => (ex_pand_t rfl rfl hg6920 rfl)) hS ?_
                  refine drwp_done ?_
                  replace HM := (HM.front 0 rfl rfl).drop
                  replace HM := (HM.front 0 rfl rfl).drop
                  replace HM := HM.front 8 rfl rfl
                  replace HM := HM.front 8 rfl rfl
                  replace HM := HM.front 8 rfl rfl
                  replace HM := HM.front 8 rfl rfl
                  replace HM := HM.front 8 rfl rfl
                  replace HM := HM.front 8 rfl rfl
                  replace HM := HM.front 8 rfl rfl
                  replace HM := HM.front 8 rfl rfl
                  exact at_meet [(4, .pointer (some ⟨b6690, 0, none⟩)), (3, u6684), (5, .int .i64 t6682.2.2), (6, .pointer (some ⟨b6700, 0, none⟩)), (7, .pointer (some ⟨b6721, 0, none⟩)), (8, .int .i64 a6842), (9, .pointer (some ⟨b6902, 0, none⟩)), (74, .bool ((((gt t6696.fMembers a6842).fKey) != t6682.2.1.fMember) && ((t6907.fCode != 0) || (!((((gt t6907.fMembers (0 : Int)).fKey) == ((gt t6696.fMembers a6842).fKey)) && ((((gt t6907.fMembers (0 : Int)).fRef.fTx) == ((gt t6696.fMembers a6842).fRef.fTx)) && (((gt t6907.fMembers (0 : Int)).fRef.fAt) == ((gt t6696.fMembers a6842).fRef.fAt))))))))] ⟨rfl, HM⟩ (Sub.cons rfl (Sub.cons rfl (Sub.cons rfl (Sub.cons rfl (Sub.cons rfl (Sub.cons rfl (Sub.cons rfl (Sub.cons rfl Sub.nil))))))))
              · skip
                refine drwp_off rfl (guard_off rfl rfl rfl hg6920) rfl rfl hS ?_
                refine drwp_off rfl (guard_off rfl rfl rfl hg6920) rfl rfl hS ?_
                refine drwp_off rfl (guard_off rfl rfl rfl hg6920) rfl rfl hS ?_
                refine drwp_off rfl (guard_off rfl rfl rfl hg6920) rfl rfl hS ?_
                refine drwp_off rfl (guard_undef rfl rfl rfl) rfl rfl hS ?_
                refine drwp_off rfl (guard_undef rfl rfl rfl) rfl rfl hS ?_
                refine drwp_off rfl (guard_undef rfl rfl rfl) rfl rfl hS ?_
                refine drwp_off rfl (guard_undef rfl rfl rfl) rfl rfl hS ?_
                refine drwp_off rfl (guard_undef rfl rfl rfl) rfl rfl hS ?_
                refine drwp_off rfl (guard_undef rfl rfl rfl) rfl rfl hS ?_
                refine drwp_off rfl (guard_off rfl rfl rfl hg6920) rfl rfl hS ?_
                have hg6923 : ((((gt t6696.fMembers a6842).fKey) != t6682.2.1.fMember) && ((t6907.fCode != 0) || (!((((gt t6907.fMembers (0 : Int)).fKey) == ((gt t6696.fMembers a6842).fKey)) && ((((gt t6907.fMembers (0 : Int)).fRef.fTx) == ((gt t6696.fMembers a6842).fRef.fTx)) && (((gt t6907.fMembers (0 : Int)).fRef.fAt) == ((gt t6696.fMembers a6842).fRef.fAt))))))) = false := by simp only [hg6920, Bool.and_true, Bool.true_and, Bool.and_false, Bool.false_and, Bool.or_true, Bool.true_or, Bool.or_false, Bool.false_or, Bool.not_true, Bool.not_false, Bool.not_not]
                refine drwp_take (v := .bool ((((gt t6696.fMembers a6842).fKey) != t6682.2.1.fMember) && ((t6907.fCode != 0) || (!((((gt t6907.fMembers (0 : Int)).fKey) == ((gt t6696.fMembers a6842).fKey)) && ((((gt t6907.fMembers (0 : Int)).fRef.fTx) == ((gt t6696.fMembers a6842).fRef.fTx)) && (((gt t6907.fMembers (0 : Int)).fRef.fAt) == ((gt t6696.fMembers a6842).fRef.fAt)))))))) rfl (guard_none rfl) rfl rfl (fun w_ hS_ => (ex_pand_f rfl rfl hg6920)) hS ?_
                refine drwp_done ?_
                replace HM := (HM.front 0 rfl rfl).drop
                replace HM := (HM.front 0 rfl rfl).drop
                replace HM := HM.front 8 rfl rfl
                replace HM := HM.front 8 rfl rfl
                replace HM := HM.front 8 rfl rfl
                replace HM := HM.front 8 rfl rfl
                replace HM := HM.front 8 rfl rfl
                replace HM := HM.front 8 rfl rfl
                replace HM := HM.front 8 rfl rfl
                replace HM := HM.front 8 rfl rfl
                exact at_meet [(4, .pointer (some ⟨b6690, 0, none⟩)), (3, u6684), (5, .int .i64 t6682.2.2), (6, .pointer (some ⟨b6700, 0, none⟩)), (7, .pointer (some ⟨b6721, 0, none⟩)), (8, .int .i64 a6842), (9, .pointer (some ⟨b6902, 0, none⟩)), (74, .bool ((((gt t6696.fMembers a6842).fKey) != t6682.2.1.fMember) && ((t6907.fCode != 0) || (!((((gt t6907.fMembers (0 : Int)).fKey) == ((gt t6696.fMembers a6842).fKey)) && ((((gt t6907.fMembers (0 : Int)).fRef.fTx) == ((gt t6696.fMembers a6842).fRef.fTx)) && (((gt t6907.fMembers (0 : Int)).fRef.fAt) == ((gt t6696.fMembers a6842).fRef.fAt))))))))] ⟨rfl, HM⟩ (Sub.cons rfl (Sub.cons rfl (Sub.cons rfl (Sub.cons rfl (Sub.cons rfl (Sub.cons rfl (Sub.cons rfl (Sub.cons rfl Sub.nil))))))))
            · rintro _ w6924 ⟨rfl, HM⟩
              refine at_then ?_
              refine run_cond (b := ((((gt t6696.fMembers a6842).fKey) != t6682.2.1.fMember) && ((t6907.fCode != 0) || (!((((gt t6907.fMembers (0 : Int)).fKey) == ((gt t6696.fMembers a6842).fKey)) && ((((gt t6907.fMembers (0 : Int)).fRef.fTx) == ((gt t6696.fMembers a6842).fRef.fTx)) && (((gt t6907.fMembers (0 : Int)).fRef.fAt) == ((gt t6696.fMembers a6842).fRef.fAt)))))))) rfl (fun hb6925 => ?_) (fun hb6925 => ?_)
              · replace ho6900 := cond_t hb6925 ho6900
                refine run_seq ?_
                refine run_region rfl ?_
                refine ox rfl rfl rfl rfl (ex_assign rfl rfl) ?_
                refine ops_nil (at_then ?_)
                refine run_ret ?_
                refine at_then_ret ?_
                refine at_block_ret ?_
                refine at_then_ret ?_
                refine at_then_ret ?_
                refine at_block_ret ?_
                refine at_then_ret ?_
                replace HM := (HM.front 0 rfl rfl).drop
                replace HM := (HM.front 0 rfl rfl).drop
                replace HM := (HM.front 0 rfl rfl).drop
                replace HM := (HM.front 0 rfl rfl).drop
                replace HM := (HM.front 0 rfl rfl).drop
                replace HM := (HM.front 0 rfl rfl).drop
                replace HM := (HM.front 0 rfl rfl).drop
                replace HM := (HM.front 0 rfl rfl).drop
                replace HM := (HM.front 0 rfl rfl).drop
                have hR := Option.some.inj ho6900
                subst hR
                have hT := thn_inl ho6813
                have hR := Option.some.inj hT
                subst hR
                have hT := thn_inl H
                have hR := Option.some.inj hT
                subst hR
                exact at_ret1 rfl rfl ⟨_, rfl, rfl, HM⟩
              · replace ho6900 := cond_f hb6925 ho6900
                refine run_skip ?_
                refine at_then ?_
                refine run_seq ?_
                refine run_region rfl ?_
                refine ox rfl rfl rfl rfl (ex_assign rfl rfl) ?_
                refine ops_nil (at_then ?_)
                refine run_block ?_
                refine run_loop (fun k_ ρ_ w_ => ∃ a6929 : Int, laws_FnMembers.l1 t6682 t6696 a6842 k_ a6929 = some o6899 ∧ ρ_ = [(4, .pointer (some ⟨b6690, 0, none⟩)), (3, u6684), (5, .int .i64 t6682.2.2), (6, .pointer (some ⟨b6700, 0, none⟩)), (7, .pointer (some ⟨b6721, 0, none⟩)), (8, .int .i64 a6842), (9, .pointer (some ⟨b6902, 0, none⟩)), (11, .int .i64 a6929)] ∧ Mem w [] w_ [box b6690 28 [.int .i64 t6682.2.1.fKind, .int .i64 t6682.2.1.fMember, u6686, u6688], own kRef 36 u6686 t6682.2.1.fIns, own kOut 69 u6688 t6682.2.1.fOuts, own kMember 38 u6684 t6682.1, box b6700 32 [.int .i64 t6696.fCode, u6698], own kMember 38 u6698 t6696.fMembers, box b6721 32 [.int .i64 t6717.fCode, u6719], own kMember 38 u6719 t6717.fMembers, box b6902 38 [.int .i64 ((gt t6696.fMembers a6842).fKey), .int .i64 ((gt t6696.fMembers a6842).fRef.fTx), .int .i64 ((gt t6696.fMembers a6842).fRef.fAt)]]) k6871 (ρ1 := [(4, .pointer (some ⟨b6690, 0, none⟩)), (3, u6684), (5, .int .i64 t6682.2.2), (6, .pointer (some ⟨b6700, 0, none⟩)), (7, .pointer (some ⟨b6721, 0, none⟩)), (8, .int .i64 a6842), (9, .pointer (some ⟨b6902, 0, none⟩)), (11, .int .i64 0)]) ⟨_, ho6900, rfl, HM⟩ (Sub.cons rfl (Sub.cons rfl (Sub.cons rfl (Sub.cons rfl (Sub.cons rfl (Sub.cons rfl (Sub.cons rfl (Sub.cons rfl Sub.nil)))))))) ?_
                clear HM ho6900
                rintro k6933 _ w6934 ⟨a6929, ho6900, rfl, HM⟩
                obtain _ | k6933 := k6933
                · exact nomatch ((laws_FnMembers.l1_z t6682 t6696 a6842 a6929).symm.trans ho6900)
                replace ho6900 := (laws_FnMembers.l1_s t6682 t6696 a6842 k6933 a6929).symm.trans ho6900
                refine run_seq ?_
                refine run_seq ?_
                refine run_region rfl ?_
                refine ox rfl rfl rfl rfl (ex_move rfl rfl) ?_
                refine ox rfl rfl rfl rfl (ex_fieldAddr (off' := 2) rfl rfl Try.underlying28 rfl tsz25 rfl) ?_
                refine ox rfl rfl rfl rfl (ex_load1 rfl rfl Try.underlying25 rfl ((HM.box_at 0 rfl) 2 _ rfl)) ?_
                refine ox rfl rfl rfl rfl (ex_len (d := kRef) (xs := t6682.2.1.fIns) rfl rfl Try.underlying25 (HM.own_rd 1 rfl)) ?_
                refine ox rfl rfl rfl rfl (ex_lss rfl rfl rfl) ?_
                refine ops_nil (at_then ?_)
                refine run_cond (b := (decide (a6929 < (t6682.2.1.fIns.length : Int)))) rfl (fun hb6935 => ?_) (fun hb6935 => ?_)
                · replace ho6900 := cond_t hb6935 ho6900
                  refine run_skip ?_
                  refine at_then ?_
                  refine run_seq ?_
                  refine run_block ?_
                  refine run_seq ?_
                  obtain ⟨e6936, ho6900⟩ := chk_some ho6900
                  refine run_meet (fun ρ_ w_ => ρ_ = [(4, .pointer (some ⟨b6690, 0, none⟩)), (3, u6684), (5, .int .i64 t6682.2.2), (6, .pointer (some ⟨b6700, 0, none⟩)), (7, .pointer (some ⟨b6721, 0, none⟩)), (8, .int .i64 a6842), (9, .pointer (some ⟨b6902, 0, none⟩)), (11, .int .i64 a6929), (96, .bool (((((gt t6682.2.1.fIns a6929).fTx) == ((gt t6696.fMembers a6842).fRef.fTx)) && (((gt t6682.2.1.fIns a6929).fAt) == ((gt t6696.fMembers a6842).fRef.fAt))) && (((gt t6696.fMembers a6842).fKey) != t6682.2.1.fMember)))] ∧ Mem w [] w_ [box b6690 28 [.int .i64 t6682.2.1.fKind, .int .i64 t6682.2.1.fMember, u6686, u6688], own kRef 36 u6686 t6682.2.1.fIns, own kOut 69 u6688 t6682.2.1.fOuts, own kMember 38 u6684 t6682.1, box b6700 32 [.int .i64 t6696.fCode, u6698], own kMember 38 u6698 t6696.fMembers, box b6721 32 [.int .i64 t6717.fCode, u6719], own kMember 38 u6719 t6717.fMembers, box b6902 38 [.int .i64 ((gt t6696.fMembers a6842).fKey), .int .i64 ((gt t6696.fMembers a6842).fRef.fTx), .int .i64 ((gt t6696.fMembers a6842).fRef.fAt)]]) ?_ ?_
                  · skip
                    refine run_drawf (fun w_ => Mem w [] w_ [box b6690 28 [.int .i64 t6682.2.1.fKind, .int .i64 t6682.2.1.fMember, u6686, u6688], own kRef 36 u6686 t6682.2.1.fIns, own kOut 69 u6688 t6682.2.1.fOuts, own kMember 38 u6684 t6682.1, box b6700 32 [.int .i64 t6696.fCode, u6698], own kMember 38 u6698 t6696.fMembers, box b6721 32 [.int .i64 t6717.fCode, u6719], own kMember 38 u6719 t6717.fMembers, box b6902 38 [.int .i64 ((gt t6696.fMembers a6842).fKey), .int .i64 ((gt t6696.fMembers a6842).fRef.fTx), .int .i64 ((gt t6696.fMembers a6842).fRef.fAt)]]) [(0, true), (1, true), (2, true), (3, true), (4, true), (5, true), (6, true), (7, true), (8, true), (9, true), (10, true), (11, true), (12, true), (13, true), (14, true)] mixed rfl rfl (by kernel_rfl) ?_
                    replace HM := HM.grow (fr_drew _)
                    have hS := Mem.suf (M := []) HM
                    refine dp rfl rfl rfl rfl (ex_fieldAddr (off' := 2) rfl rfl Try.underlying28 rfl tsz25 rfl) hS ?_
                    refine drwp_take rfl (guard_none rfl) rfl rfl (fun w_ hS_ => (ex_load1 rfl rfl Try.underlying25 rfl ((hS_.box_at 0 rfl) 2 _ rfl))) hS ?_
                    refine dp rfl rfl rfl rfl (ex_move rfl rfl) hS ?_
                    refine drwp_take rfl (guard_none rfl) rfl rfl (fun w_ hS_ => (ex_indexAddr (d := kRef) rfl rfl rfl Try.underlying25 tsz36 (hS_.own_rd 1 rfl) (idx_lo e6936) (idx_hi e6936))) hS ?_
                    refine drwp_take rfl (guard_none rfl) rfl rfl (fun w_ hS_ => (ex_loadN (cs := [(.int .i64 ((gt t6682.2.1.fIns a6929).fTx)), (.int .i64 ((gt t6682.2.1.fIns a6929).fAt))]) rfl rfl Try.underlying36 rfl tsz36 rfl ((rd_plain (hS_.own_rd 1 rfl) e6936).sub 0 2 rfl))) hS ?_
                    refine dp rfl rfl rfl rfl (ex_fieldAddr (off' := 1) rfl rfl Try.underlying38 rfl tsz36 rfl) hS ?_
                    refine drwp_take rfl (guard_none rfl) rfl rfl (fun w_ hS_ => (ex_loadN (cs := [(.int .i64 ((gt t6696.fMembers a6842).fRef.fTx)), (.int .i64 ((gt t6696.fMembers a6842).fRef.fAt))]) rfl rfl Try.underlying36 rfl tsz36 rfl ((hS_.box_at 8 rfl).sub 1 2 rfl))) hS ?_
                    refine dp rfl rfl rfl rfl (ex_aeql rfl rfl rfl (by kernel_rfl) (eqs36 _ _ _ _ _)) hS ?_
                    refine dp rfl rfl rfl rfl (ex_move rfl rfl) hS ?_
                    refine bool_cases ((((gt t6682.2.1.fIns a6929).fTx) == ((gt t6696.fMembers a6842).fRef.fTx)) && (((gt t6682.2.1.fIns a6929).fAt) == ((gt t6696.fMembers a6842).fRef.fAt))) (fun hg6937 => ?_) (fun hg6937 => ?_)
                    · skip
                      refine drwp_take rfl (guard_on rfl rfl rfl hg6937) rfl rfl (fun w_ hS_ => (ex_fieldAddr (off' := 0) rfl rfl Try.underlying38 rfl tsz2 rfl)) hS ?_
                      refine drwp_take rfl (guard_on rfl rfl rfl hg6937) rfl rfl (fun w_ hS_ => (ex_load1 rfl rfl Try.underlying2 rfl ((hS_.box_at 8 rfl) 0 _ rfl))) hS ?_
                      refine drwp_take rfl (guard_on rfl rfl rfl hg6937) rfl rfl (fun w_ hS_ => (ex_fieldAddr (off' := 1) rfl rfl Try.underlying28 rfl tsz2 rfl)) hS ?_
                      refine drwp_take rfl (guard_on rfl rfl rfl hg6937) rfl rfl (fun w_ hS_ => (ex_load1 rfl rfl Try.underlying2 rfl ((hS_.box_at 0 rfl) 1 _ rfl))) hS ?_
                      refine drwp_take rfl (guard_on rfl rfl rfl hg6937) rfl rfl (fun w_ hS_ => (ex_neq rfl rfl rfl)) hS ?_
                      refine drwp_take (v := .bool (((((gt t6682.2.1.fIns a6929).fTx) == ((gt t6696.fMembers a6842).fRef.fTx)) && (((gt t6682.2.1.fIns a6929).fAt) == ((gt t6696.fMembers a6842).fRef.fAt))) && (((gt t6696.fMembers a6842).fKey) != t6682.2.1.fMember))) rfl (guard_none rfl) rfl rfl (fun w_ hS_ => (ex_pand_t rfl rfl hg6937 rfl)) hS ?_
                      refine drwp_done ?_
                      exact at_meet [(4, .pointer (some ⟨b6690, 0, none⟩)), (3, u6684), (5, .int .i64 t6682.2.2), (6, .pointer (some ⟨b6700, 0, none⟩)), (7, .pointer (some ⟨b6721, 0, none⟩)), (8, .int .i64 a6842), (9, .pointer (some ⟨b6902, 0, none⟩)), (11, .int .i64 a6929), (96, .bool (((((gt t6682.2.1.fIns a6929).fTx) == ((gt t6696.fMembers a6842).fRef.fTx)) && (((gt t6682.2.1.fIns a6929).fAt) == ((gt t6696.fMembers a6842).fRef.fAt))) && (((gt t6696.fMembers a6842).fKey) != t6682.2.1.fMember)))] ⟨rfl, HM⟩ (Sub.cons rfl (Sub.cons rfl (Sub.cons rfl (Sub.cons rfl (Sub.cons rfl (Sub.cons rfl (Sub.cons rfl (Sub.cons rfl (Sub.cons rfl Sub.nil)))))))))
                    · skip
                      refine drwp_off rfl (guard_off rfl rfl rfl hg6937) rfl rfl hS ?_
                      refine drwp_off rfl (guard_off rfl rfl rfl hg6937) rfl rfl hS ?_
                      refine drwp_off rfl (guard_off rfl rfl rfl hg6937) rfl rfl hS ?_
                      refine drwp_off rfl (guard_off rfl rfl rfl hg6937) rfl rfl hS ?_
                      refine drwp_off rfl (guard_off rfl rfl rfl hg6937) rfl rfl hS ?_
                      have hg6938 : (((((gt t6682.2.1.fIns a6929).fTx) == ((gt t6696.fMembers a6842).fRef.fTx)) && (((gt t6682.2.1.fIns a6929).fAt) == ((gt t6696.fMembers a6842).fRef.fAt))) && (((gt t6696.fMembers a6842).fKey) != t6682.2.1.fMember)) = false := by simp only [hg6937, Bool.and_true, Bool.true_and, Bool.and_false, Bool.false_and, Bool.or_true, Bool.true_or, Bool.or_false, Bool.false_or, Bool.not_true, Bool.not_false, Bool.not_not]
                      refine drwp_take (v := .bool (((((gt t6682.2.1.fIns a6929).fTx) == ((gt t6696.fMembers a6842).fRef.fTx)) && (((gt t6682.2.1.fIns a6929).fAt) == ((gt t6696.fMembers a6842).fRef.fAt))) && (((gt t6696.fMembers a6842).fKey) != t6682.2.1.fMember))) rfl (guard_none rfl) rfl rfl (fun w_ hS_ => (ex_pand_f rfl rfl hg6937)) hS ?_
                      refine drwp_done ?_
                      exact at_meet [(4, .pointer (some ⟨b6690, 0, none⟩)), (3, u6684), (5, .int .i64 t6682.2.2), (6, .pointer (some ⟨b6700, 0, none⟩)), (7, .pointer (some ⟨b6721, 0, none⟩)), (8, .int .i64 a6842), (9, .pointer (some ⟨b6902, 0, none⟩)), (11, .int .i64 a6929), (96, .bool (((((gt t6682.2.1.fIns a6929).fTx) == ((gt t6696.fMembers a6842).fRef.fTx)) && (((gt t6682.2.1.fIns a6929).fAt) == ((gt t6696.fMembers a6842).fRef.fAt))) && (((gt t6696.fMembers a6842).fKey) != t6682.2.1.fMember)))] ⟨rfl, HM⟩ (Sub.cons rfl (Sub.cons rfl (Sub.cons rfl (Sub.cons rfl (Sub.cons rfl (Sub.cons rfl (Sub.cons rfl (Sub.cons rfl (Sub.cons rfl Sub.nil)))))))))
                  · rintro _ w6939 ⟨rfl, HM⟩
                    refine at_then ?_
                    refine run_cond (b := (((((gt t6682.2.1.fIns a6929).fTx) == ((gt t6696.fMembers a6842).fRef.fTx)) && (((gt t6682.2.1.fIns a6929).fAt) == ((gt t6696.fMembers a6842).fRef.fAt))) && (((gt t6696.fMembers a6842).fKey) != t6682.2.1.fMember))) rfl (fun hb6940 => ?_) (fun hb6940 => ?_)
                    · replace ho6900 := cond_t hb6940 ho6900
                      refine run_seq ?_
                      refine run_region rfl ?_
                      refine ox rfl rfl rfl rfl (ex_assign rfl rfl) ?_
                      refine ops_nil (at_then ?_)
                      refine run_ret ?_
                      refine at_block_ret ?_
                      refine at_then_ret ?_
                      refine at_then_ret ?_
                      refine at_block_ret ?_
                      refine at_block_ret ?_
                      refine at_then_ret ?_
                      refine at_then_ret ?_
                      refine at_block_ret ?_
                      refine at_then_ret ?_
                      replace HM := (HM.front 0 rfl rfl).drop
                      replace HM := (HM.front 0 rfl rfl).drop
                      replace HM := (HM.front 0 rfl rfl).drop
                      replace HM := (HM.front 0 rfl rfl).drop
                      replace HM := (HM.front 0 rfl rfl).drop
                      replace HM := (HM.front 0 rfl rfl).drop
                      replace HM := (HM.front 0 rfl rfl).drop
                      replace HM := (HM.front 0 rfl rfl).drop
                      replace HM := (HM.front 0 rfl rfl).drop
                      have hR := Option.some.inj ho6900
                      subst hR
                      have hT := thn_inl ho6813
                      have hR := Option.some.inj hT
                      subst hR
                      have hT := thn_inl H
                      have hR := Option.some.inj hT
                      subst hR
                      exact at_ret1 rfl rfl ⟨_, rfl, rfl, HM⟩
                    · replace ho6900 := cond_f hb6940 ho6900
                      refine run_skip ?_
                      refine at_block ?_
                      refine at_then ?_
                      refine run_region rfl ?_
                      refine ox rfl rfl rfl rfl (ex_move rfl rfl) ?_
                      refine ox rfl rfl rfl rfl (ex_add rfl rfl rfl) ?_
                      refine ox rfl rfl rfl rfl (ex_assign rfl rfl) ?_
                      refine ops_nil ?_
                      exact at_again k6933 (ρ1 := [(4, .pointer (some ⟨b6690, 0, none⟩)), (3, u6684), (5, .int .i64 t6682.2.2), (6, .pointer (some ⟨b6700, 0, none⟩)), (7, .pointer (some ⟨b6721, 0, none⟩)), (8, .int .i64 a6842), (9, .pointer (some ⟨b6902, 0, none⟩)), (11, .int .i64 (wrap64 (a6929 + 1)))]) (Nat.lt_succ_self _) ⟨_, ho6900, rfl, HM⟩ (Sub.cons rfl (Sub.cons rfl (Sub.cons rfl (Sub.cons rfl (Sub.cons rfl (Sub.cons rfl (Sub.cons rfl (Sub.cons rfl Sub.nil))))))))
                · replace ho6900 := cond_f hb6935 ho6900
                  refine run_exit ?_
                  refine at_then_exit ?_
                  refine at_then_exit ?_
                  refine at_block_exit ?_
                  refine at_block ?_
                  replace HM := (HM.front 8 rfl rfl).drop
                  exact at_mid (ρ' := [(4, .pointer (some ⟨b6690, 0, none⟩)), (3, u6684), (5, .int .i64 t6682.2.2), (6, .pointer (some ⟨b6700, 0, none⟩)), (7, .pointer (some ⟨b6721, 0, none⟩)), (8, .int .i64 a6842)]) ⟨(Option.some.inj ho6900), rfl, HM⟩ (Sub.cons rfl (Sub.cons rfl (Sub.cons rfl (Sub.cons rfl (Sub.cons rfl (Sub.cons rfl Sub.nil))))))
          · rintro _ w6941 ⟨rfl, rfl, HM⟩
            replace ho6813 := (thn_inr ho6813)
            refine run_region rfl ?_
            refine ox rfl rfl rfl rfl (ex_move rfl rfl) ?_
            refine ox rfl rfl rfl rfl (ex_add rfl rfl rfl) ?_
            refine ox rfl rfl rfl rfl (ex_assign rfl rfl) ?_
            refine ops_nil ?_
            exact at_again k6871 (ρ1 := [(4, .pointer (some ⟨b6690, 0, none⟩)), (3, u6684), (5, .int .i64 t6682.2.2), (6, .pointer (some ⟨b6700, 0, none⟩)), (7, .pointer (some ⟨b6721, 0, none⟩)), (8, .int .i64 (wrap64 (a6842 + 1)))]) (Nat.lt_succ_self _) ⟨_, ho6813, rfl, HM⟩ (Sub.cons rfl (Sub.cons rfl (Sub.cons rfl (Sub.cons rfl (Sub.cons rfl (Sub.cons rfl Sub.nil))))))
        · replace ho6813 := cond_f hb6873 ho6813
          refine run_exit ?_
          refine at_then_exit ?_
          refine at_then_exit ?_
          refine at_block_exit ?_
          exact at_mid (ρ' := [(4, .pointer (some ⟨b6690, 0, none⟩)), (3, u6684), (5, .int .i64 t6682.2.2), (6, .pointer (some ⟨b6700, 0, none⟩)), (7, .pointer (some ⟨b6721, 0, none⟩))]) ⟨(Option.some.inj ho6813), rfl, HM⟩ (Sub.cons rfl (Sub.cons rfl (Sub.cons rfl (Sub.cons rfl (Sub.cons rfl Sub.nil)))))
      · rintro _ w6942 ⟨rfl, rfl, HM⟩
        replace H := (thn_inr H)
        refine run_seq ?_
        refine run_seq ?_
        obtain ⟨e6945, H⟩ := chk_some H
        refine run_meet (fun ρ_ w_ => ρ_ = [(4, .pointer (some ⟨b6690, 0, none⟩)), (3, u6684), (5, .int .i64 t6682.2.2), (6, .pointer (some ⟨b6700, 0, none⟩)), (124, .bool (((t6682.2.1.fKind == 1) && ((t6717.fCode != 0) || (!((((gt t6717.fMembers (0 : Int)).fRef.fTx) == t6682.2.2) && (((gt t6717.fMembers (0 : Int)).fRef.fAt) == 0))))) || ((t6682.2.1.fKind == 2) && (t6717.fCode != 4))))] ∧ Mem w [] w_ [box b6690 28 [.int .i64 t6682.2.1.fKind, .int .i64 t6682.2.1.fMember, u6686, u6688], own kRef 36 u6686 t6682.2.1.fIns, own kOut 69 u6688 t6682.2.1.fOuts, own kMember 38 u6684 t6682.1, box b6700 32 [.int .i64 t6696.fCode, u6698], own kMember 38 u6698 t6696.fMembers]) ?_ ?_
        · skip
          refine run_region rfl ?_
          refine ox rfl rfl rfl rfl (ex_fieldAddr (off' := 0) rfl rfl Try.underlying28 rfl tsz2 rfl) ?_
          refine ox rfl rfl rfl rfl (ex_load1 rfl rfl Try.underlying2 rfl ((HM.box_at 0 rfl) 0 _ rfl)) ?_
          refine ox rfl rfl rfl rfl (ex_eql rfl rfl rfl) ?_
          refine ox rfl rfl rfl rfl (ex_move rfl rfl) ?_
          refine bool_cases (t6682.2.1.fKind == 1) (fun hg6946 => ?_) (fun hg6946 => ?_)
          · skip
            refine ops_ex rfl (guard_on rfl rfl rfl hg6946) rfl rfl (ex_fieldAddr (off' := 0) rfl rfl Try.underlying32 rfl tsz2 rfl) ?_
            refine ops_ex rfl (guard_on rfl rfl rfl hg6946) rfl rfl (ex_load1 rfl rfl Try.underlying2 rfl ((HM.box_at 6 rfl) 0 _ rfl)) ?_
            refine ops_ex rfl (guard_on rfl rfl rfl hg6946) rfl rfl (ex_neq rfl rfl rfl) ?_
            refine ops_ex rfl (guard_on rfl rfl rfl hg6946) rfl rfl (ex_move rfl rfl) ?_
            refine bool_cases (t6717.fCode != 0) (fun hg6947 => ?_) (fun hg6947 => ?_)
            · skip
              refine ops_off rfl (guard_off rfl rfl rfl hg6947) rfl rfl ?_
              refine ops_off rfl (guard_off rfl rfl rfl hg6947) rfl rfl ?_
              refine ops_off rfl (guard_off rfl rfl rfl hg6947) rfl rfl ?_
              refine ops_off rfl (guard_off rfl rfl rfl hg6947) rfl rfl ?_
              refine ops_off rfl (guard_off rfl rfl rfl hg6947) rfl rfl ?_
              refine ops_off rfl (guard_off rfl rfl rfl hg6947) rfl rfl ?_
              refine ops_off rfl (guard_off rfl rfl rfl hg6947) rfl rfl ?_
              refine ops_off rfl (guard_off rfl rfl rfl hg6947) rfl rfl ?_
              have hg6948 : ((t6717.fCode != 0) || (!((((gt t6717.fMembers (0 : Int)).fRef.fTx) == t6682.2.2) && (((gt t6717.fMembers (0 : Int)).fRef.fAt) == 0)))) = true := by simp only [hg6947, Bool.and_true, Bool.true_and, Bool.and_false, Bool.false_and, Bool.or_true, Bool.true_or, Bool.or_false, Bool.false_or, Bool.not_true, Bool.not_false, Bool.not_not]
              refine ops_ex (v := .bool ((t6717.fCode != 0) || (!((((gt t6717.fMembers (0 : Int)).fRef.fTx) == t6682.2.2) && (((gt t6717.fMembers (0 : Int)).fRef.fAt) == 0))))) rfl (guard_on rfl rfl rfl hg6946) rfl rfl (ex_por_t rfl rfl hg6947) ?_
              refine ops_ex (v := .bool ((t6682.2.1.fKind == 1) && ((t6717.fCode != 0) || (!((((gt t6717.fMembers (0 : Int)).fRef.fTx) == t6682.2.2) && (((gt t6717.fMembers (0 : Int)).fRef.fAt) == 0)))))) rfl (guard_none rfl) rfl rfl (ex_pand_t rfl rfl hg6946 rfl) ?_
              refine ox rfl rfl rfl rfl (ex_move rfl rfl) ?_
              refine bool_cases ((t6682.2.1.fKind == 1) && ((t6717.fCode != 0) || (!((((gt t6717.fMembers (0 : Int)).fRef.fTx) == t6682.2.2) && (((gt t6717.fMembers (0 : Int)).fRef.fAt) == 0))))) (fun hg6949 => ?_) (fun hg6949 => ?_)
              · skip
                refine ops_off rfl (guard_off rfl rfl rfl hg6949) rfl rfl ?_
                refine ops_off rfl (guard_off rfl rfl rfl hg6949) rfl rfl ?_
                refine ops_off rfl (guard_off rfl rfl rfl hg6949) rfl rfl ?_
                refine ops_off rfl (guard_off rfl rfl rfl hg6949) rfl rfl ?_
                refine ops_off rfl (guard_undef rfl rfl rfl) rfl rfl ?_
                refine ops_off rfl (guard_undef rfl rfl rfl) rfl rfl ?_
                refine ops_off rfl (guard_undef rfl rfl rfl) rfl rfl ?_
                refine ops_off rfl (guard_off rfl rfl rfl hg6949) rfl rfl ?_
                have hg6950 : (((t6682.2.1.fKind == 1) && ((t6717.fCode != 0) || (!((((gt t6717.fMembers (0 : Int)).fRef.fTx) == t6682.2.2) && (((gt t6717.fMembers (0 : Int)).fRef.fAt) == 0))))) || ((t6682.2.1.fKind == 2) && (t6717.fCode != 4))) = true := by simp only [hg6949, Bool.and_true, Bool.true_and, Bool.and_false, Bool.false_and, Bool.or_true, Bool.true_or, Bool.or_false, Bool.false_or, Bool.not_true, Bool.not_false, Bool.not_not]
                refine ops_ex (v := .bool (((t6682.2.1.fKind == 1) && ((t6717.fCode != 0) || (!((((gt t6717.fMembers (0 : Int)).fRef.fTx) == t6682.2.2) && (((gt t6717.fMembers (0 : Int)).fRef.fAt) == 0))))) || ((t6682.2.1.fKind == 2) && (t6717.fCode != 4)))) rfl (guard_none rfl) rfl rfl (ex_por_t rfl rfl hg6949) ?_
                refine ops_nil ?_
                replace HM := (HM.front 6 rfl rfl).drop
                replace HM := (HM.front 6 rfl rfl).drop
                exact at_meet [(4, .pointer (some ⟨b6690, 0, none⟩)), (3, u6684), (5, .int .i64 t6682.2.2), (6, .pointer (some ⟨b6700, 0, none⟩)), (124, .bool (((t6682.2.1.fKind == 1) && ((t6717.fCode != 0) || (!((((gt t6717.fMembers (0 : Int)).fRef.fTx) == t6682.2.2) && (((gt t6717.fMembers (0 : Int)).fRef.fAt) == 0))))) || ((t6682.2.1.fKind == 2) && (t6717.fCode != 4))))] ⟨rfl, HM⟩ (Sub.cons rfl (Sub.cons rfl (Sub.cons rfl (Sub.cons rfl (Sub.cons rfl Sub.nil)))))
              · skip
                refine ops_ex rfl (guard_on rfl rfl rfl hg6949) rfl rfl (ex_fieldAddr (off' := 0) rfl rfl Try.underlying28 rfl tsz2 rfl) ?_
                refine ops_ex rfl (guard_on rfl rfl rfl hg6949) rfl rfl (ex_load1 rfl rfl Try.underlying2 rfl ((HM.box_at 0 rfl) 0 _ rfl)) ?_
                refine ops_ex rfl (guard_on rfl rfl rfl hg6949) rfl rfl (ex_eql rfl rfl rfl) ?_
                refine ops_ex rfl (guard_on rfl rfl rfl hg6949) rfl rfl (ex_move rfl rfl) ?_
                refine bool_cases (t6682.2.1.fKind == 2) (fun hg6951 => ?_) (fun hg6951 => ?_)
                · skip
                  refine ops_ex rfl (guard_on rfl rfl rfl hg6951) rfl rfl (ex_fieldAddr (off' := 0) rfl rfl Try.underlying32 rfl tsz2 rfl) ?_
                  refine ops_ex rfl (guard_on rfl rfl rfl hg6951) rfl rfl (ex_load1 rfl rfl Try.underlying2 rfl ((HM.box_at 6 rfl) 0 _ rfl)) ?_
                  refine ops_ex rfl (guard_on rfl rfl rfl hg6951) rfl rfl (ex_neq rfl rfl rfl) ?_
                  refine ops_ex (v := .bool ((t6682.2.1.fKind == 2) && (t6717.fCode != 4))) rfl (guard_on rfl rfl rfl hg6949) rfl rfl (ex_pand_t rfl rfl hg6951 rfl) ?_
                  refine ops_ex (v := .bool (((t6682.2.1.fKind == 1) && ((t6717.fCode != 0) || (!((((gt t6717.fMembers (0 : Int)).fRef.fTx) == t6682.2.2) && (((gt t6717.fMembers (0 : Int)).fRef.fAt) == 0))))) || ((t6682.2.1.fKind == 2) && (t6717.fCode != 4)))) rfl (guard_none rfl) rfl rfl (ex_por_f rfl rfl hg6949 rfl) ?_
                  refine ops_nil ?_
                  replace HM := (HM.front 6 rfl rfl).drop
                  replace HM := (HM.front 6 rfl rfl).drop
                  exact at_meet [(4, .pointer (some ⟨b6690, 0, none⟩)), (3, u6684), (5, .int .i64 t6682.2.2), (6, .pointer (some ⟨b6700, 0, none⟩)), (124, .bool (((t6682.2.1.fKind == 1) && ((t6717.fCode != 0) || (!((((gt t6717.fMembers (0 : Int)).fRef.fTx) == t6682.2.2) && (((gt t6717.fMembers (0 : Int)).fRef.fAt) == 0))))) || ((t6682.2.1.fKind == 2) && (t6717.fCode != 4))))] ⟨rfl, HM⟩ (Sub.cons rfl (Sub.cons rfl (Sub.cons rfl (Sub.cons rfl (Sub.cons rfl Sub.nil)))))
                · skip
                  refine ops_off rfl (guard_off rfl rfl rfl hg6951) rfl rfl ?_
                  refine ops_off rfl (guard_off rfl rfl rfl hg6951) rfl rfl ?_
                  refine ops_off rfl (guard_off rfl rfl rfl hg6951) rfl rfl ?_
                  have hg6952 : ((t6682.2.1.fKind == 2) && (t6717.fCode != 4)) = false := by simp only [hg6951, Bool.and_true, Bool.true_and, Bool.and_false, Bool.false_and, Bool.or_true, Bool.true_or, Bool.or_false, Bool.false_or, Bool.not_true, Bool.not_false, Bool.not_not]
                  refine ops_ex (v := .bool ((t6682.2.1.fKind == 2) && (t6717.fCode != 4))) rfl (guard_on rfl rfl rfl hg6949) rfl rfl (ex_pand_f rfl rfl hg6951) ?_
                  refine ops_ex (v := .bool (((t6682.2.1.fKind == 1) && ((t6717.fCode != 0) || (!((((gt t6717.fMembers (0 : Int)).fRef.fTx) == t6682.2.2) && (((gt t6717.fMembers (0 : Int)).fRef.fAt) == 0))))) || ((t6682.2.1.fKind == 2) && (t6717.fCode != 4)))) rfl (guard_none rfl) rfl rfl (ex_por_f rfl rfl hg6949 rfl) ?_
                  refine ops_nil ?_
                  replace HM := (HM.front 6 rfl rfl).drop
                  replace HM := (HM.front 6 rfl rfl).drop
                  exact at_meet [(4, .pointer (some ⟨b6690, 0, none⟩)), (3, u6684), (5, .int .i64 t6682.2.2), (6, .pointer (some ⟨b6700, 0, none⟩)), (124, .bool (((t6682.2.1.fKind == 1) && ((t6717.fCode != 0) || (!((((gt t6717.fMembers (0 : Int)).fRef.fTx) == t6682.2.2) && (((gt t6717.fMembers (0 : Int)).fRef.fAt) == 0))))) || ((t6682.2.1.fKind == 2) && (t6717.fCode != 4))))] ⟨rfl, HM⟩ (Sub.cons rfl (Sub.cons rfl (Sub.cons rfl (Sub.cons rfl (Sub.cons rfl Sub.nil)))))
            · skip
              refine ops_ex rfl (guard_on rfl rfl rfl hg6947) rfl rfl (ex_fieldAddr (off' := 1) rfl rfl Try.underlying32 rfl tsz24 rfl) ?_
              refine ops_ex rfl (guard_on rfl rfl rfl hg6947) rfl rfl (ex_load1 rfl rfl Try.underlying24 rfl ((HM.box_at 6 rfl) 1 _ rfl)) ?_
              refine ops_ex rfl (guard_on rfl rfl rfl hg6947) rfl rfl (ex_indexAddr (d := kMember) rfl rfl rfl Try.underlying24 tsz38 (HM.own_rd 7 rfl) (idx_lo (or_t e6945 (and_mk hg6946 (not_mk hg6947)))) (idx_hi (or_t e6945 (and_mk hg6946 (not_mk hg6947))))) ?_
              refine ops_ex rfl (guard_on rfl rfl rfl hg6947) rfl rfl (ex_fieldAddr (off' := so u6719 + ((0 : Int)).toNat * 3 + 1) rfl rfl Try.underlying38 rfl tsz36 rfl) ?_
              refine ops_ex rfl (guard_on rfl rfl rfl hg6947) rfl rfl (ex_loadN (cs := [(.int .i64 ((gt t6717.fMembers (0 : Int)).fRef.fTx)), (.int .i64 ((gt t6717.fMembers (0 : Int)).fRef.fAt))]) rfl rfl Try.underlying36 rfl tsz36 rfl ((rd_plain (HM.own_rd 7 rfl) (or_t e6945 (and_mk hg6946 (not_mk hg6947)))).sub 1 2 rfl)) ?_
              refine ops_ex rfl (guard_on rfl rfl rfl hg6947) rfl rfl (ex_move rfl rfl) ?_
              refine ops_ex rfl (guard_on rfl rfl rfl hg6947) rfl rfl (ex_build (cells := #[(.int .i64 t6682.2.2), (.int .i64 0)]) rfl rfl (by kernel_rfl)) ?_
              refine ops_ex rfl (guard_on rfl rfl rfl hg6947) rfl rfl (ex_aneq rfl rfl rfl (by kernel_rfl) (eqs36 _ _ _ _ _)) ?_
              refine ops_ex (v := .bool ((t6717.fCode != 0) || (!((((gt t6717.fMembers (0 : Int)).fRef.fTx) == t6682.2.2) && (((gt t6717.fMembers (0 : Int)).fRef.fAt) == 0))))) rfl (guard_on rfl rfl rfl hg6946) rfl rfl (ex_por_f rfl rfl hg6947 rfl) ?_
              refine ops_ex (v := .bool ((t6682.2.1.fKind == 1) && ((t6717.fCode != 0) || (!((((gt t6717.fMembers (0 : Int)).fRef.fTx) == t6682.2.2) && (((gt t6717.fMembers (0 : Int)).fRef.fAt) == 0)))))) rfl (guard_none rfl) rfl rfl (ex_pand_t rfl rfl hg6946 rfl) ?_
              refine ox rfl rfl rfl rfl (ex_move rfl rfl) ?_
              refine bool_cases ((t6682.2.1.fKind == 1) && ((t6717.fCode != 0) || (!((((gt t6717.fMembers (0 : Int)).fRef.fTx) == t6682.2.2) && (((gt t6717.fMembers (0 : Int)).fRef.fAt) == 0))))) (fun hg6953 => ?_) (fun hg6953 => ?_)
              · skip
                refine ops_off rfl (guard_off rfl rfl rfl hg6953) rfl rfl ?_
                refine ops_off rfl (guard_off rfl rfl rfl hg6953) rfl rfl ?_
                refine ops_off rfl (guard_off rfl rfl rfl hg6953) rfl rfl ?_
                refine ops_off rfl (guard_off rfl rfl rfl hg6953) rfl rfl ?_
                refine ops_off rfl (guard_undef rfl rfl rfl) rfl rfl ?_
                refine ops_off rfl (guard_undef rfl rfl rfl) rfl rfl ?_
                refine ops_off rfl (guard_undef rfl rfl rfl) rfl rfl ?_
                refine ops_off rfl (guard_off rfl rfl rfl hg6953) rfl rfl ?_
                have hg6954 : (((t6682.2.1.fKind == 1) && ((t6717.fCode != 0) || (!((((gt t6717.fMembers (0 : Int)).fRef.fTx) == t6682.2.2) && (((gt t6717.fMembers (0 : Int)).fRef.fAt) == 0))))) || ((t6682.2.1.fKind == 2) && (t6717.fCode != 4))) = true := by simp only [hg6953, Bool.and_true, Bool.true_and, Bool.and_false, Bool.false_and, Bool.or_true, Bool.true_or, Bool.or_false, Bool.false_or, Bool.not_true, Bool.not_false, Bool.not_not]
                refine ops_ex (v := .bool (((t6682.2.1.fKind == 1) && ((t6717.fCode != 0) || (!((((gt t6717.fMembers (0 : Int)).fRef.fTx) == t6682.2.2) && (((gt t6717.fMembers (0 : Int)).fRef.fAt) == 0))))) || ((t6682.2.1.fKind == 2) && (t6717.fCode != 4)))) rfl (guard_none rfl) rfl rfl (ex_por_t rfl rfl hg6953) ?_
                refine ops_nil ?_
                replace HM := (HM.front 6 rfl rfl).drop
                replace HM := (HM.front 6 rfl rfl).drop
                exact at_meet [(4, .pointer (some ⟨b6690, 0, none⟩)), (3, u6684), (5, .int .i64 t6682.2.2), (6, .pointer (some ⟨b6700, 0, none⟩)), (124, .bool (((t6682.2.1.fKind == 1) && ((t6717.fCode != 0) || (!((((gt t6717.fMembers (0 : Int)).fRef.fTx) == t6682.2.2) && (((gt t6717.fMembers (0 : Int)).fRef.fAt) == 0))))) || ((t6682.2.1.fKind == 2) && (t6717.fCode != 4))))] ⟨rfl, HM⟩ (Sub.cons rfl (Sub.cons rfl (Sub.cons rfl (Sub.cons rfl (Sub.cons rfl Sub.nil)))))
              · skip
                refine ops_ex rfl (guard_on rfl rfl rfl hg6953) rfl rfl (ex_fieldAddr (off' := 0) rfl rfl Try.underlying28 rfl tsz2 rfl) ?_
                refine ops_ex rfl (guard_on rfl rfl rfl hg6953) rfl rfl (ex_load1 rfl rfl Try.underlying2 rfl ((HM.box_at 0 rfl) 0 _ rfl)) ?_
                refine ops_ex rfl (guard_on rfl rfl rfl hg6953) rfl rfl (ex_eql rfl rfl rfl) ?_
                refine ops_ex rfl (guard_on rfl rfl rfl hg6953) rfl rfl (ex_move rfl rfl) ?_
                refine bool_cases (t6682.2.1.fKind == 2) (fun hg6955 => ?_) (fun hg6955 => ?_)
                · skip
                  refine ops_ex rfl (guard_on rfl rfl rfl hg6955) rfl rfl (ex_fieldAddr (off' := 0) rfl rfl Try.underlying32 rfl tsz2 rfl) ?_
                  refine ops_ex rfl (guard_on rfl rfl rfl hg6955) rfl rfl (ex_load1 rfl rfl Try.underlying2 rfl ((HM.box_at 6 rfl) 0 _ rfl)) ?_
                  refine ops_ex rfl (guard_on rfl rfl rfl hg6955) rfl rfl (ex_neq rfl rfl rfl) ?_
                  refine ops_ex (v := .bool ((t6682.2.1.fKind == 2) && (t6717.fCode != 4))) rfl (guard_on rfl rfl rfl hg6953) rfl rfl (ex_pand_t rfl rfl hg6955 rfl) ?_
                  refine ops_ex (v := .bool (((t6682.2.1.fKind == 1) && ((t6717.fCode != 0) || (!((((gt t6717.fMembers (0 : Int)).fRef.fTx) == t6682.2.2) && (((gt t6717.fMembers (0 : Int)).fRef.fAt) == 0))))) || ((t6682.2.1.fKind == 2) && (t6717.fCode != 4)))) rfl (guard_none rfl) rfl rfl (ex_por_f rfl rfl hg6953 rfl) ?_
                  refine ops_nil ?_
                  replace HM := (HM.front 6 rfl rfl).drop
                  replace HM := (HM.front 6 rfl rfl).drop
                  exact at_meet [(4, .pointer (some ⟨b6690, 0, none⟩)), (3, u6684), (5, .int .i64 t6682.2.2), (6, .pointer (some ⟨b6700, 0, none⟩)), (124, .bool (((t6682.2.1.fKind == 1) && ((t6717.fCode != 0) || (!((((gt t6717.fMembers (0 : Int)).fRef.fTx) == t6682.2.2) && (((gt t6717.fMembers (0 : Int)).fRef.fAt) == 0))))) || ((t6682.2.1.fKind == 2) && (t6717.fCode != 4))))] ⟨rfl, HM⟩ (Sub.cons rfl (Sub.cons rfl (Sub.cons rfl (Sub.cons rfl (Sub.cons rfl Sub.nil)))))
                · skip
                  refine ops_off rfl (guard_off rfl rfl rfl hg6955) rfl rfl ?_
                  refine ops_off rfl (guard_off rfl rfl rfl hg6955) rfl rfl ?_
                  refine ops_off rfl (guard_off rfl rfl rfl hg6955) rfl rfl ?_
                  have hg6956 : ((t6682.2.1.fKind == 2) && (t6717.fCode != 4)) = false := by simp only [hg6955, Bool.and_true, Bool.true_and, Bool.and_false, Bool.false_and, Bool.or_true, Bool.true_or, Bool.or_false, Bool.false_or, Bool.not_true, Bool.not_false, Bool.not_not]
                  refine ops_ex (v := .bool ((t6682.2.1.fKind == 2) && (t6717.fCode != 4))) rfl (guard_on rfl rfl rfl hg6953) rfl rfl (ex_pand_f rfl rfl hg6955) ?_
                  refine ops_ex (v := .bool (((t6682.2.1.fKind == 1) && ((t6717.fCode != 0) || (!((((gt t6717.fMembers (0 : Int)).fRef.fTx) == t6682.2.2) && (((gt t6717.fMembers (0 : Int)).fRef.fAt) == 0))))) || ((t6682.2.1.fKind == 2) && (t6717.fCode != 4)))) rfl (guard_none rfl) rfl rfl (ex_por_f rfl rfl hg6953 rfl) ?_
                  refine ops_nil ?_
                  replace HM := (HM.front 6 rfl rfl).drop
                  replace HM := (HM.front 6 rfl rfl).drop
                  exact at_meet [(4, .pointer (some ⟨b6690, 0, none⟩)), (3, u6684), (5, .int .i64 t6682.2.2), (6, .pointer (some ⟨b6700, 0, none⟩)), (124, .bool (((t6682.2.1.fKind == 1) && ((t6717.fCode != 0) || (!((((gt t6717.fMembers (0 : Int)).fRef.fTx) == t6682.2.2) && (((gt t6717.fMembers (0 : Int)).fRef.fAt) == 0))))) || ((t6682.2.1.fKind == 2) && (t6717.fCode != 4))))] ⟨rfl, HM⟩ (Sub.cons rfl (Sub.cons rfl (Sub.cons rfl (Sub.cons rfl (Sub.cons rfl Sub.nil)))))
          · skip
            refine ops_off rfl (guard_off rfl rfl rfl hg6946) rfl rfl ?_
            refine ops_off rfl (guard_off rfl rfl rfl hg6946) rfl rfl ?_
            refine ops_off rfl (guard_off rfl rfl rfl hg6946) rfl rfl ?_
            refine ops_off rfl (guard_off rfl rfl rfl hg6946) rfl rfl ?_
            refine ops_off rfl (guard_undef rfl rfl rfl) rfl rfl ?_
            refine ops_off rfl (guard_undef rfl rfl rfl) rfl rfl ?_
            refine ops_off rfl (guard_undef rfl rfl rfl) rfl rfl ?_
            refine ops_off rfl (guard_undef rfl rfl rfl) rfl rfl ?_
            refine ops_off rfl (guard_undef rfl rfl rfl) rfl rfl ?_
            refine ops_off rfl (guard_undef rfl rfl rfl) rfl rfl ?_
            refine ops_off rfl (guard_undef rfl rfl rfl) rfl rfl ?_
            refine ops_off rfl (guard_undef rfl rfl rfl) rfl rfl ?_
            refine ops_off rfl (guard_off rfl rfl rfl hg6946) rfl rfl ?_
            have hg6957 : ((t6682.2.1.fKind == 1) && ((t6717.fCode != 0) || (!((((gt t6717.fMembers (0 : Int)).fRef.fTx) == t6682.2.2) && (((gt t6717.fMembers (0 : Int)).fRef.fAt) == 0))))) = false := by simp only [hg6946, Bool.and_true, Bool.true_and, Bool.and_false, Bool.false_and, Bool.or_true, Bool.true_or, Bool.or_false, Bool.false_or, Bool.not_true, Bool.not_false, Bool.not_not]
            refine ops_ex (v := .bool ((t6682.2.1.fKind == 1) && ((t6717.fCode != 0) || (!((((gt t6717.fMembers (0 : Int)).fRef.fTx) == t6682.2.2) && (((gt t6717.fMembers (0 : Int)).fRef.fAt) == 0)))))) rfl (guard_none rfl) rfl rfl (ex_pand_f rfl rfl hg6946) ?_
            refine ox rfl rfl rfl rfl (ex_move rfl rfl) ?_
            refine ops_ex rfl (guard_on rfl rfl rfl hg6957) rfl rfl (ex_fieldAddr (off' := 0) rfl rfl Try.underlying28 rfl tsz2 rfl) ?_
            refine ops_ex rfl (guard_on rfl rfl rfl hg6957) rfl rfl (ex_load1 rfl rfl Try.underlying2 rfl ((HM.box_at 0 rfl) 0 _ rfl)) ?_
            refine ops_ex rfl (guard_on rfl rfl rfl hg6957) rfl rfl (ex_eql rfl rfl rfl) ?_
            refine ops_ex rfl (guard_on rfl rfl rfl hg6957) rfl rfl (ex_move rfl rfl) ?_
            refine bool_cases (t6682.2.1.fKind == 2) (fun hg6958 => ?_) (fun hg6958 => ?_)
            · skip
              refine ops_ex rfl (guard_on rfl rfl rfl hg6958) rfl rfl (ex_fieldAddr (off' := 0) rfl rfl Try.underlying32 rfl tsz2 rfl) ?_
              refine ops_ex rfl (guard_on rfl rfl rfl hg6958) rfl rfl (ex_load1 rfl rfl Try.underlying2 rfl ((HM.box_at 6 rfl) 0 _ rfl)) ?_
              refine ops_ex rfl (guard_on rfl rfl rfl hg6958) rfl rfl (ex_neq rfl rfl rfl) ?_
              refine ops_ex (v := .bool ((t6682.2.1.fKind == 2) && (t6717.fCode != 4))) rfl (guard_on rfl rfl rfl hg6957) rfl rfl (ex_pand_t rfl rfl hg6958 rfl) ?_
              refine ops_ex (v := .bool (((t6682.2.1.fKind == 1) && ((t6717.fCode != 0) || (!((((gt t6717.fMembers (0 : Int)).fRef.fTx) == t6682.2.2) && (((gt t6717.fMembers (0 : Int)).fRef.fAt) == 0))))) || ((t6682.2.1.fKind == 2) && (t6717.fCode != 4)))) rfl (guard_none rfl) rfl rfl (ex_por_f rfl rfl hg6957 rfl) ?_
              refine ops_nil ?_
              replace HM := (HM.front 6 rfl rfl).drop
              replace HM := (HM.front 6 rfl rfl).drop
              exact at_meet [(4, .pointer (some ⟨b6690, 0, none⟩)), (3, u6684), (5, .int .i64 t6682.2.2), (6, .pointer (some ⟨b6700, 0, none⟩)), (124, .bool (((t6682.2.1.fKind == 1) && ((t6717.fCode != 0) || (!((((gt t6717.fMembers (0 : Int)).fRef.fTx) == t6682.2.2) && (((gt t6717.fMembers (0 : Int)).fRef.fAt) == 0))))) || ((t6682.2.1.fKind == 2) && (t6717.fCode != 4))))] ⟨rfl, HM⟩ (Sub.cons rfl (Sub.cons rfl (Sub.cons rfl (Sub.cons rfl (Sub.cons rfl Sub.nil)))))
            · skip
              refine ops_off rfl (guard_off rfl rfl rfl hg6958) rfl rfl ?_
              refine ops_off rfl (guard_off rfl rfl rfl hg6958) rfl rfl ?_
              refine ops_off rfl (guard_off rfl rfl rfl hg6958) rfl rfl ?_
              have hg6959 : ((t6682.2.1.fKind == 2) && (t6717.fCode != 4)) = false := by simp only [hg6958, Bool.and_true, Bool.true_and, Bool.and_false, Bool.false_and, Bool.or_true, Bool.true_or, Bool.or_false, Bool.false_or, Bool.not_true, Bool.not_false, Bool.not_not]
              refine ops_ex (v := .bool ((t6682.2.1.fKind == 2) && (t6717.fCode != 4))) rfl (guard_on rfl rfl rfl hg6957) rfl rfl (ex_pand_f rfl rfl hg6958) ?_
              refine ops_ex (v := .bool (((t6682.2.1.fKind == 1) && ((t6717.fCode != 0) || (!((((gt t6717.fMembers (0 : Int)).fRef.fTx) == t6682.2.2) && (((gt t6717.fMembers (0 : Int)).fRef.fAt) == 0))))) || ((t6682.2.1.fKind == 2) && (t6717.fCode != 4)))) rfl (guard_none rfl) rfl rfl (ex_por_f rfl rfl hg6957 rfl) ?_
              refine ops_nil ?_
              replace HM := (HM.front 6 rfl rfl).drop
              replace HM := (HM.front 6 rfl rfl).drop
              exact at_meet [(4, .pointer (some ⟨b6690, 0, none⟩)), (3, u6684), (5, .int .i64 t6682.2.2), (6, .pointer (some ⟨b6700, 0, none⟩)), (124, .bool (((t6682.2.1.fKind == 1) && ((t6717.fCode != 0) || (!((((gt t6717.fMembers (0 : Int)).fRef.fTx) == t6682.2.2) && (((gt t6717.fMembers (0 : Int)).fRef.fAt) == 0))))) || ((t6682.2.1.fKind == 2) && (t6717.fCode != 4))))] ⟨rfl, HM⟩ (Sub.cons rfl (Sub.cons rfl (Sub.cons rfl (Sub.cons rfl (Sub.cons rfl Sub.nil)))))
        · rintro _ w6960 ⟨rfl, HM⟩
          refine at_then ?_
          refine run_cond (b := (((t6682.2.1.fKind == 1) && ((t6717.fCode != 0) || (!((((gt t6717.fMembers (0 : Int)).fRef.fTx) == t6682.2.2) && (((gt t6717.fMembers (0 : Int)).fRef.fAt) == 0))))) || ((t6682.2.1.fKind == 2) && (t6717.fCode != 4)))) rfl (fun hb6961 => ?_) (fun hb6961 => ?_)
          · replace H := cond_t hb6961 H
            refine run_seq ?_
            refine run_region rfl ?_
            refine ox rfl rfl rfl rfl (ex_assign rfl rfl) ?_
            refine ops_nil (at_then ?_)
            refine run_ret ?_
            refine at_then_ret ?_
            replace HM := (HM.front 0 rfl rfl).drop
            replace HM := (HM.front 0 rfl rfl).drop
            replace HM := (HM.front 0 rfl rfl).drop
            replace HM := (HM.front 0 rfl rfl).drop
            replace HM := (HM.front 0 rfl rfl).drop
            replace HM := (HM.front 0 rfl rfl).drop
            have hR := Option.some.inj H
            subst hR
            exact at_ret1 rfl rfl ⟨_, rfl, rfl, HM⟩
          · replace H := cond_f hb6961 H
            refine run_skip ?_
            refine at_then ?_
            refine run_seq ?_
            obtain ⟨t6962, h6963, H⟩ := bind_some H
            refine run_region rfl ?_
            refine ox rfl rfl rfl rfl (ex_fieldAddr (off' := 1) rfl rfl Try.underlying32 rfl tsz24 rfl) ?_
            refine ox rfl rfl rfl rfl (ex_load1 rfl rfl Try.underlying24 rfl ((HM.box_at 4 rfl) 1 _ rfl)) ?_
            refine od rfl rfl rfl rfl (does_callk rfl callok12 rfl (impl_KeysOf.calls (x0 := t6696.fMembers) (HM.own_rd 5 rfl) h6963)) ?_
            rintro _ w6969 ⟨u6964, rfl, hn⟩
            replace HM : Mem w [] w6969 [own kInt 2 u6964 t6962.fList, box b6690 28 [.int .i64 t6682.2.1.fKind, .int .i64 t6682.2.1.fMember, u6686, u6688], own kRef 36 u6686 t6682.2.1.fIns, own kOut 69 u6688 t6682.2.1.fOuts, own kMember 38 u6684 t6682.1, box b6700 32 [.int .i64 t6696.fCode, u6698], own kMember 38 u6698 t6696.fMembers] := HM.call hn
            refine od rfl rfl rfl rfl (does_alloc (cs := [.int .i64 0, .slice none 0 0]) rfl tz41 rfl HM) ?_
            rintro _ w6970 ⟨b6966, rfl, HM⟩
            refine odS rfl rfl rfl (does_store (vs := [.int .i64 t6962.fCode, u6964]) (cs' := [.int .i64 t6962.fCode, u6964]) rfl rfl rfl rfl tsz41 (Ones.int (Ones.rd (HM.own_rd 1 rfl) Ones.nil)) rfl rfl HM) ?_
            rintro w6971 HM
            refine ops_nil (at_then (run_seq ?_))
            obtain ⟨t6972, h6973, H⟩ := bind_some H
            obtain ⟨t6974, h6975, H⟩ := bind_some H
            obtain ⟨t6978, h6979, H⟩ := bind_some H
            refine run_meet (fun ρ_ w_ => ρ_ = [(2, .bool ((((t6972 == 0) && (t6962.fCode == 0)) && ((t6962.fList.length : Int) == (t6696.fMembers.length : Int))) && t6978))] ∧ Mem w [] w_ []) ?_ ?_
            · skip
              refine run_drawf (fun w_ => Mem w [] w_ [box b6966 41 [.int .i64 t6962.fCode, u6964], own kInt 2 u6964 t6962.fList, box b6690 28 [.int .i64 t6682.2.1.fKind, .int .i64 t6682.2.1.fMember, u6686, u6688], own kRef 36 u6686 t6682.2.1.fIns, own kOut 69 u6688 t6682.2.1.fOuts, own kMember 38 u6684 t6682.1, box b6700 32 [.int .i64 t6696.fCode, u6698], own kMember 38 u6698 t6696.fMembers]) [(0, true), (1, true), (2, false), (3, true), (4, true), (5, true), (6, true), (7, true), (8, true), (9, true), (10, true), (11, true), (12, true), (13, true), (14, true), (15, true), (16, true), (17, true), (18, true), (19, true), (20, true), (21, true), (22, true), (23, true), (24, false), (25, true), (26, false), (27, true), (28, true)] mixed rfl rfl (by kernel_rfl) ?_
              replace HM := HM.grow (fr_drew _)
              have hS := Mem.suf (M := []) HM
              refine dp rfl rfl rfl rfl (ex_fieldAddr (off' := 1) rfl rfl Try.underlying32 rfl tsz24 rfl) hS ?_
              refine drwp_take rfl (guard_none rfl) rfl rfl (fun w_ hS_ => (ex_load1 rfl rfl Try.underlying24 rfl ((hS_.box_at 6 rfl) 1 _ rfl))) hS ?_
              refine drwp_one rfl (guard_none rfl) rfl rfl (does_callk rfl callok13 rfl (impl_MembersFault.calls (x0 := t6696.fMembers) (HM.own_rd 7 rfl) h6973)) ?_
              rintro _ w6980 ⟨rfl, hn⟩
              replace HM : Mem w [] w6980 [box b6966 41 [.int .i64 t6962.fCode, u6964], own kInt 2 u6964 t6962.fList, box b6690 28 [.int .i64 t6682.2.1.fKind, .int .i64 t6682.2.1.fMember, u6686, u6688], own kRef 36 u6686 t6682.2.1.fIns, own kOut 69 u6688 t6682.2.1.fOuts, own kMember 38 u6684 t6682.1, box b6700 32 [.int .i64 t6696.fCode, u6698], own kMember 38 u6698 t6696.fMembers] := HM.call hn
              have hS := Mem.suf (M := []) HM
              refine ⟨hS, ?_⟩
              refine dp rfl rfl rfl rfl (ex_eql rfl rfl rfl) hS ?_
              refine dp rfl rfl rfl rfl (ex_move rfl rfl) hS ?_
              refine bool_cases (t6972 == 0) (fun hg6981 => ?_) (fun hg6981 => ?_)
              · skip
                refine drwp_take rfl (guard_on rfl rfl rfl hg6981) rfl rfl (fun w_ hS_ => (ex_fieldAddr (off' := 0) rfl rfl Try.underlying41 rfl tsz2 rfl)) hS ?_
                refine drwp_take rfl (guard_on rfl rfl rfl hg6981) rfl rfl (fun w_ hS_ => (ex_load1 rfl rfl Try.underlying2 rfl ((hS_.box_at 0 rfl) 0 _ rfl))) hS ?_
                refine drwp_take rfl (guard_on rfl rfl rfl hg6981) rfl rfl (fun w_ hS_ => (ex_eql rfl rfl rfl)) hS ?_
                refine drwp_take (v := .bool ((t6972 == 0) && (t6962.fCode == 0))) rfl (guard_none rfl) rfl rfl (fun w_ hS_ => (ex_pand_t rfl rfl hg6981 rfl)) hS ?_
                refine dp rfl rfl rfl rfl (ex_move rfl rfl) hS ?_
                refine bool_cases ((t6972 == 0) && (t6962.fCode == 0)) (fun hg6982 => ?_) (fun hg6982 => ?_)
                · skip
                  refine drwp_take rfl (guard_on rfl rfl rfl hg6982) rfl rfl (fun w_ hS_ => (ex_fieldAddr (off' := 1) rfl rfl Try.underlying41 rfl tsz39 rfl)) hS ?_
                  refine drwp_take rfl (guard_on rfl rfl rfl hg6982) rfl rfl (fun w_ hS_ => (ex_load1 rfl rfl Try.underlying39 rfl ((hS_.box_at 0 rfl) 1 _ rfl))) hS ?_
                  refine drwp_take rfl (guard_on rfl rfl rfl hg6982) rfl rfl (fun w_ hS_ => (ex_len (d := kInt) (xs := t6962.fList) rfl rfl Try.underlying39 (hS_.own_rd 1 rfl))) hS ?_
                  refine drwp_take rfl (guard_on rfl rfl rfl hg6982) rfl rfl (fun w_ hS_ => (ex_fieldAddr (off' := 1) rfl rfl Try.underlying32 rfl tsz24 rfl)) hS ?_
                  refine drwp_take rfl (guard_on rfl rfl rfl hg6982) rfl rfl (fun w_ hS_ => (ex_load1 rfl rfl Try.underlying24 rfl ((hS_.box_at 6 rfl) 1 _ rfl))) hS ?_
                  refine drwp_take rfl (guard_on rfl rfl rfl hg6982) rfl rfl (fun w_ hS_ => (ex_len (d := kMember) (xs := t6696.fMembers) rfl rfl Try.underlying24 (hS_.own_rd 7 rfl))) hS ?_
                  refine drwp_take rfl (guard_on rfl rfl rfl hg6982) rfl rfl (fun w_ hS_ => (ex_eql rfl rfl rfl)) hS ?_
                  refine drwp_take (v := .bool (((t6972 == 0) && (t6962.fCode == 0)) && ((t6962.fList.length : Int) == (t6696.fMembers.length : Int)))) rfl (guard_none rfl) rfl rfl (fun w_ hS_ => (ex_pand_t rfl rfl hg6982 rfl)) hS ?_
                  refine dp rfl rfl rfl rfl (ex_move rfl rfl) hS ?_
                  refine bool_cases (((t6972 == 0) && (t6962.fCode == 0)) && ((t6962.fList.length : Int) == (t6696.fMembers.length : Int))) (fun hg6983 => ?_) (fun hg6983 => ?_)
                  · skip
                    refine drwp_take rfl (guard_on rfl rfl rfl hg6983) rfl rfl (fun w_ hS_ => (ex_fieldAddr (off' := 1) rfl rfl Try.underlying32 rfl tsz24 rfl)) hS ?_
                    refine drwp_take rfl (guard_on rfl rfl rfl hg6983) rfl rfl (fun w_ hS_ => (ex_load1 rfl rfl Try.underlying24 rfl ((hS_.box_at 6 rfl) 1 _ rfl))) hS ?_
                    refine drwp_take rfl (guard_on rfl rfl rfl hg6983) rfl rfl (fun w_ hS_ => (ex_move rfl rfl)) hS ?_
                    refine drwp_take rfl (guard_on rfl rfl rfl hg6983) rfl rfl (fun w_ hS_ => (ex_loadN (cs := [(.int .i64 t6682.2.1.fKind), (.int .i64 t6682.2.1.fMember), u6686, u6688]) rfl rfl Try.underlying28 rfl tsz28 rfl ((hS_.box_at 2 rfl).sub 0 4 rfl))) hS ?_
                    refine drwp_take rfl (guard_on rfl rfl rfl hg6983) rfl rfl (fun w_ hS_ => (ex_move rfl rfl)) hS ?_
                    refine drwp_one rfl (guard_on rfl rfl rfl hg6983) rfl rfl (does_callk rfl callok10 rfl (spec_TakeMembers.calls (x0 := t6682.1) (x1 := (⟨t6682.2.1.fKind, t6682.2.1.fMember, t6682.2.1.fIns, t6682.2.1.fOuts⟩ : Tx)) (x2 := t6682.2.2) (HM.own_rd 5 rfl) (HM.own_rd 3 rfl) (HM.own_rd 4 rfl) (cond_t hg6983 h6975))) ?_
                    rintro _ w6984 ⟨u6976, rfl, hn⟩
                    replace HM : Mem w [] w6984 [own kMember 38 u6976 t6974.fMembers, box b6966 41 [.int .i64 t6962.fCode, u6964], own kInt 2 u6964 t6962.fList, box b6690 28 [.int .i64 t6682.2.1.fKind, .int .i64 t6682.2.1.fMember, u6686, u6688], own kRef 36 u6686 t6682.2.1.fIns, own kOut 69 u6688 t6682.2.1.fOuts, own kMember 38 u6684 t6682.1, box b6700 32 [.int .i64 t6696.fCode, u6698], own kMember 38 u6698 t6696.fMembers] := HM.call hn
                    have hS := Mem.suf (M := [own kMember 38 u6976 t6974.fMembers]) HM
                    refine ⟨hS, ?_⟩
                    refine drwp_take rfl (guard_on rfl rfl rfl hg6983) rfl rfl (fun w_ hS_ => (ex_field1 rfl rfl Try.underlying32 rfl Try.underlying24 rfl rfl)) hS ?_
                    refine drwp_one rfl (guard_on rfl rfl rfl hg6983) rfl rfl (does_callk rfl callok14 rfl (impl_SameMembers.calls (x0 := t6696.fMembers) (x1 := t6974.fMembers) (HM.own_rd 8 rfl) (HM.own_rd 0 rfl) (cond_t hg6983 h6979))) ?_
                    rintro _ w6985 ⟨rfl, hn⟩
                    replace HM : Mem w [] w6985 [own kMember 38 u6976 t6974.fMembers, box b6966 41 [.int .i64 t6962.fCode, u6964], own kInt 2 u6964 t6962.fList, box b6690 28 [.int .i64 t6682.2.1.fKind, .int .i64 t6682.2.1.fMember, u6686, u6688], own kRef 36 u6686 t6682.2.1.fIns, own kOut 69 u6688 t6682.2.1.fOuts, own kMember 38 u6684 t6682.1, box b6700 32 [.int .i64 t6696.fCode, u6698], own kMember 38 u6698 t6696.fMembers] := HM.call hn
                    have hS := Mem.suf (M := [own kMember 38 u6976 t6974.fMembers]) HM
                    refine ⟨hS, ?_⟩
                    refine drwp_take (v := .bool ((((t6972 == 0) && (t6962.fCode == 0)) && ((t6962.fList.length : Int) == (t6696.fMembers.length : Int))) && t6978)) rfl (guard_none rfl) rfl rfl (fun w_ hS_ => (ex_pand_t rfl rfl hg6983 rfl)) hS ?_
                    refine dp rfl rfl rfl rfl (ex_assign rfl rfl) hS ?_
                    refine drwp_done ?_
                    replace HM := (HM.front 0 rfl rfl).drop
                    replace HM := (HM.front 0 rfl rfl).drop
                    replace HM := (HM.front 0 rfl rfl).drop
                    replace HM := (HM.front 0 rfl rfl).drop
                    replace HM := (HM.front 0 rfl rfl).drop
                    replace HM := (HM.front 0 rfl rfl).drop
                    replace HM := (HM.front 0 rfl rfl).drop
                    replace HM := (HM.front 0 rfl rfl).drop
                    replace HM := (HM.front 0 rfl rfl).drop
                    exact at_meet [(2, .bool ((((t6972 == 0) && (t6962.fCode == 0)) && ((t6962.fList.length : Int) == (t6696.fMembers.length : Int))) && t6978))] ⟨rfl, HM⟩ (Sub.cons rfl Sub.nil)
                  · skip
                    refine drwp_off rfl (guard_off rfl rfl rfl hg6983) rfl rfl hS ?_
                    refine drwp_off rfl (guard_off rfl rfl rfl hg6983) rfl rfl hS ?_
                    refine drwp_off rfl (guard_off rfl rfl rfl hg6983) rfl rfl hS ?_
                    refine drwp_off rfl (guard_off rfl rfl rfl hg6983) rfl rfl hS ?_
                    refine drwp_off rfl (guard_off rfl rfl rfl hg6983) rfl rfl hS ?_
                    refine drwp_off1 rfl (guard_off rfl rfl rfl hg6983) rfl rfl ⟨hS, ?_⟩
                    refine drwp_off rfl (guard_off rfl rfl rfl hg6983) rfl rfl hS ?_
                    refine drwp_off1 rfl (guard_off rfl rfl rfl hg6983) rfl rfl ⟨hS, ?_⟩
                    have hg6986 : ((((t6972 == 0) && (t6962.fCode == 0)) && ((t6962.fList.length : Int) == (t6696.fMembers.length : Int))) && t6978) = false := by simp only [hg6983, Bool.and_true, Bool.true_and, Bool.and_false, Bool.false_and, Bool.or_true, Bool.true_or, Bool.or_false, Bool.false_or, Bool.not_true, Bool.not_false, Bool.not_not]
                    refine drwp_take (v := .bool ((((t6972 == 0) && (t6962.fCode == 0)) && ((t6962.fList.length : Int) == (t6696.fMembers.length : Int))) && t6978)) rfl (guard_none rfl) rfl rfl (fun w_ hS_ => (ex_pand_f rfl rfl hg6983)) hS ?_
                    refine dp rfl rfl rfl rfl (ex_assign rfl rfl) hS ?_
                    refine drwp_done ?_
                    replace HM := (HM.front 0 rfl rfl).drop
                    replace HM := (HM.front 0 rfl rfl).drop
                    replace HM := (HM.front 0 rfl rfl).drop
                    replace HM := (HM.front 0 rfl rfl).drop
                    replace HM := (HM.front 0 rfl rfl).drop
                    replace HM := (HM.front 0 rfl rfl).drop
                    replace HM := (HM.front 0 rfl rfl).drop
                    replace HM := (HM.front 0 rfl rfl).drop
                    exact at_meet [(2, .bool ((((t6972 == 0) && (t6962.fCode == 0)) && ((t6962.fList.length : Int) == (t6696.fMembers.length : Int))) && t6978))] ⟨rfl, HM⟩ (Sub.cons rfl Sub.nil)
                · skip
                  refine drwp_off rfl (guard_off rfl rfl rfl hg6982) rfl rfl hS ?_
                  refine drwp_off rfl (guard_off rfl rfl rfl hg6982) rfl rfl hS ?_
                  refine drwp_off rfl (guard_off rfl rfl rfl hg6982) rfl rfl hS ?_
                  refine drwp_off rfl (guard_off rfl rfl rfl hg6982) rfl rfl hS ?_
                  refine drwp_off rfl (guard_off rfl rfl rfl hg6982) rfl rfl hS ?_
                  refine drwp_off rfl (guard_off rfl rfl rfl hg6982) rfl rfl hS ?_
                  refine drwp_off rfl (guard_off rfl rfl rfl hg6982) rfl rfl hS ?_
                  have hg6987 : (((t6972 == 0) && (t6962.fCode == 0)) && ((t6962.fList.length : Int) == (t6696.fMembers.length : Int))) = false := by simp only [hg6982, Bool.and_true, Bool.true_and, Bool.and_false, Bool.false_and, Bool.or_true, Bool.true_or, Bool.or_false, Bool.false_or, Bool.not_true, Bool.not_false, Bool.not_not]
                  refine drwp_take (v := .bool (((t6972 == 0) && (t6962.fCode == 0)) && ((t6962.fList.length : Int) == (t6696.fMembers.length : Int)))) rfl (guard_none rfl) rfl rfl (fun w_ hS_ => (ex_pand_f rfl rfl hg6982)) hS ?_
                  refine dp rfl rfl rfl rfl (ex_move rfl rfl) hS ?_
                  refine drwp_off rfl (guard_off rfl rfl rfl hg6987) rfl rfl hS ?_
                  refine drwp_off rfl (guard_off rfl rfl rfl hg6987) rfl rfl hS ?_
                  refine drwp_off rfl (guard_off rfl rfl rfl hg6987) rfl rfl hS ?_
                  refine drwp_off rfl (guard_off rfl rfl rfl hg6987) rfl rfl hS ?_
                  refine drwp_off rfl (guard_off rfl rfl rfl hg6987) rfl rfl hS ?_
                  refine drwp_off1 rfl (guard_off rfl rfl rfl hg6987) rfl rfl ⟨hS, ?_⟩
                  refine drwp_off rfl (guard_off rfl rfl rfl hg6987) rfl rfl hS ?_
                  refine drwp_off1 rfl (guard_off rfl rfl rfl hg6987) rfl rfl ⟨hS, ?_⟩
                  have hg6988 : ((((t6972 == 0) && (t6962.fCode == 0)) && ((t6962.fList.length : Int) == (t6696.fMembers.length : Int))) && t6978) = false := by simp only [hg6987, Bool.and_true, Bool.true_and, Bool.and_false, Bool.false_and, Bool.or_true, Bool.true_or, Bool.or_false, Bool.false_or, Bool.not_true, Bool.not_false, Bool.not_not]
                  refine drwp_take (v := .bool ((((t6972 == 0) && (t6962.fCode == 0)) && ((t6962.fList.length : Int) == (t6696.fMembers.length : Int))) && t6978)) rfl (guard_none rfl) rfl rfl (fun w_ hS_ => (ex_pand_f rfl rfl hg6987)) hS ?_
                  refine dp rfl rfl rfl rfl (ex_assign rfl rfl) hS ?_
                  refine drwp_done ?_
                  replace HM := (HM.front 0 rfl rfl).drop
                  replace HM := (HM.front 0 rfl rfl).drop
                  replace HM := (HM.front 0 rfl rfl).drop
                  replace HM := (HM.front 0 rfl rfl).drop
                  replace HM := (HM.front 0 rfl rfl).drop
                  replace HM := (HM.front 0 rfl rfl).drop
                  replace HM := (HM.front 0 rfl rfl).drop
                  replace HM := (HM.front 0 rfl rfl).drop
                  exact at_meet [(2, .bool ((((t6972 == 0) && (t6962.fCode == 0)) && ((t6962.fList.length : Int) == (t6696.fMembers.length : Int))) && t6978))] ⟨rfl, HM⟩ (Sub.cons rfl Sub.nil)
              · skip
                refine drwp_off rfl (guard_off rfl rfl rfl hg6981) rfl rfl hS ?_
                refine drwp_off rfl (guard_off rfl rfl rfl hg6981) rfl rfl hS ?_
                refine drwp_off rfl (guard_off rfl rfl rfl hg6981) rfl rfl hS ?_
                have hg6989 : ((t6972 == 0) && (t6962.fCode == 0)) = false := by simp only [hg6981, Bool.and_true, Bool.true_and, Bool.and_false, Bool.false_and, Bool.or_true, Bool.true_or, Bool.or_false, Bool.false_or, Bool.not_true, Bool.not_false, Bool.not_not]
                refine drwp_take (v := .bool ((t6972 == 0) && (t6962.fCode == 0))) rfl (guard_none rfl) rfl rfl (fun w_ hS_ => (ex_pand_f rfl rfl hg6981)) hS ?_
                refine dp rfl rfl rfl rfl (ex_move rfl rfl) hS ?_
                refine drwp_off rfl (guard_off rfl rfl rfl hg6989) rfl rfl hS ?_
                refine drwp_off rfl (guard_off rfl rfl rfl hg6989) rfl rfl hS ?_
                refine drwp_off rfl (guard_off rfl rfl rfl hg6989) rfl rfl hS ?_
                refine drwp_off rfl (guard_off rfl rfl rfl hg6989) rfl rfl hS ?_
                refine drwp_off rfl (guard_off rfl rfl rfl hg6989) rfl rfl hS ?_
                refine drwp_off rfl (guard_off rfl rfl rfl hg6989) rfl rfl hS ?_
                refine drwp_off rfl (guard_off rfl rfl rfl hg6989) rfl rfl hS ?_
                have hg6990 : (((t6972 == 0) && (t6962.fCode == 0)) && ((t6962.fList.length : Int) == (t6696.fMembers.length : Int))) = false := by simp only [hg6989, Bool.and_true, Bool.true_and, Bool.and_false, Bool.false_and, Bool.or_true, Bool.true_or, Bool.or_false, Bool.false_or, Bool.not_true, Bool.not_false, Bool.not_not]
                refine drwp_take (v := .bool (((t6972 == 0) && (t6962.fCode == 0)) && ((t6962.fList.length : Int) == (t6696.fMembers.length : Int)))) rfl (guard_none rfl) rfl rfl (fun w_ hS_ => (ex_pand_f rfl rfl hg6989)) hS ?_
                refine dp rfl rfl rfl rfl (ex_move rfl rfl) hS ?_
                refine drwp_off rfl (guard_off rfl rfl rfl hg6990) rfl rfl hS ?_
                refine drwp_off rfl (guard_off rfl rfl rfl hg6990) rfl rfl hS ?_
                refine drwp_off rfl (guard_off rfl rfl rfl hg6990) rfl rfl hS ?_
                refine drwp_off rfl (guard_off rfl rfl rfl hg6990) rfl rfl hS ?_
                refine drwp_off rfl (guard_off rfl rfl rfl hg6990) rfl rfl hS ?_
                refine drwp_off1 rfl (guard_off rfl rfl rfl hg6990) rfl rfl ⟨hS, ?_⟩
                refine drwp_off rfl (guard_off rfl rfl rfl hg6990) rfl rfl hS ?_
                refine drwp_off1 rfl (guard_off rfl rfl rfl hg6990) rfl rfl ⟨hS, ?_⟩
                have hg6991 : ((((t6972 == 0) && (t6962.fCode == 0)) && ((t6962.fList.length : Int) == (t6696.fMembers.length : Int))) && t6978) = false := by simp only [hg6990, Bool.and_true, Bool.true_and, Bool.and_false, Bool.false_and, Bool.or_true, Bool.true_or, Bool.or_false, Bool.false_or, Bool.not_true, Bool.not_false, Bool.not_not]
                refine drwp_take (v := .bool ((((t6972 == 0) && (t6962.fCode == 0)) && ((t6962.fList.length : Int) == (t6696.fMembers.length : Int))) && t6978)) rfl (guard_none rfl) rfl rfl (fun w_ hS_ => (ex_pand_f rfl rfl hg6990)) hS ?_
                refine dp rfl rfl rfl rfl (ex_assign rfl rfl) hS ?_
                refine drwp_done ?_
                replace HM := (HM.front 0 rfl rfl).drop
                replace HM := (HM.front 0 rfl rfl).drop
                replace HM := (HM.front 0 rfl rfl).drop
                replace HM := (HM.front 0 rfl rfl).drop
                replace HM := (HM.front 0 rfl rfl).drop
                replace HM := (HM.front 0 rfl rfl).drop
                replace HM := (HM.front 0 rfl rfl).drop
                replace HM := (HM.front 0 rfl rfl).drop
                exact at_meet [(2, .bool ((((t6972 == 0) && (t6962.fCode == 0)) && ((t6962.fList.length : Int) == (t6696.fMembers.length : Int))) && t6978))] ⟨rfl, HM⟩ (Sub.cons rfl Sub.nil)
            · rintro _ w6992 ⟨rfl, HM⟩
              refine at_then ?_
              refine run_ret ?_
              have hR := Option.some.inj H
              subst hR
              exact at_ret1 rfl rfl ⟨_, rfl, rfl, HM⟩
end Go.Proofs.Ytbbcabpnkdilgaa.Zk
